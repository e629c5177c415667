import PyProof.Rows.All
import Wide.All
import OpenK.AllK
import Wide.FinOn
import PySem.Challenge.RW_on0257_01
set_option Elab.async false
section
open PySem PySem.W PyProof.Rows
namespace Mine
set_option maxRecDepth 100000 in
set_option maxHeartbeats 8000000 in
open_top hd for PySem.Challenge.rw_on0257_01
end Mine
end
section
open PySem PySem.W PyProof.Rows PySem.Calls
namespace Mine


noncomputable abbrev TopM (mean : ExcName → Option Value) (mg mb : Str → Option Value) (h : Heap) : Prop :=
  Top hd.view_39 (looseW hd.view_39 [Str.ofString "PostError", Str.ofString "MOST_REAL"]) mean mg mb h

/-- what a call of a def of the text tells, whatever stands around it: it ends, leaves the frame and the ledger as they were, and hands back a value of Out -/
def Tell (w : World) (mean : ExcName → Option Value) (mg mb : Str → Option Value) (f : Addr) (need : Nat) (vs : List Value) (Out : Value → Prop) : Prop :=
  ∀ (dp un : Nat) (gd : Option (List Code)) (cn : Str) (cs : Scope) (a : Addr) (ccd : Value) (cl : List (Str × Addr)) (outer : List Env) (A₀ : Around) (base h₀ : Heap) (L : Addr) (m : Str → Option Value) (news : List (Addr × Obj)) (s : Shared) (Q E : Value → Shared → Prop),
    Below A₀ base outer h₀ → Fr h₀ L s.heap m → (hd.heap_39 w.params).In h₀ → News h₀ L s.heap news → TopM mean mg mb h₀ → cs.kind = .function → dp + need < recursionLimit → un + 8 * need < cLine →
    (∀ r h' tk', Fr h₀ L h' m → News h₀ L h' news → Out r → Q r { s with heap := h', toks := tk' }) →
    wpAny (model PySem.Challenge.rw_on0257_01.row.prog w) (ktrTop dp un gd cn cs L a ccd cl outer) (call (.ref f) vs) Q E s
end Mine
namespace Mine
theorem Tell.use {w : World} {mean : ExcName → Option Value} {mg mb : Str → Option Value} {f : Addr} {need : Nat} {vs : List Value} {Out : Value → Prop} (T : Tell w mean mg mb f need vs Out)
    {dp un : Nat} {gd : Option (List Code)} {cn : Str} {cs : Scope} {a : Addr} {ccd : Value} {cl : List (Str × Addr)} {outer : List Env} {A₀ : Around} {base h₀ : Heap} {L : Addr} {m : Str → Option Value} {news : List (Addr × Obj)} {s : Shared} {Q E : Value → Shared → Prop}
    (B : Below A₀ base outer h₀) (F : Fr h₀ L s.heap m) (X : (hd.heap_39 w.params).In h₀) (N : News h₀ L s.heap news) (Tp : TopM mean mg mb h₀) (hk : cs.kind = .function) (hd1 : dp + need < recursionLimit) (hu : un + 8 * need < cLine)
    (ret : ∀ r h' tk', Fr h₀ L h' m → News h₀ L h' news → Out r → Q r { s with heap := h', toks := tk' }) :
    wpAny (model PySem.Challenge.rw_on0257_01.row.prog w) (ktrTop dp un gd cn cs L a ccd cl outer) (call (.ref f) vs) Q E s :=
  T _ _ _ _ _ _ _ _ _ _ _ _ _ _ _ _ _ _ B F X N Tp hk hd1 hu ret
def OutOpt (o : Option Int) (r : Value) : Prop := (o = none ∧ r = .none) ∨ ∃ x t, o = some x ∧ r = .int x t
end Mine
namespace Mine
/-- as Tell, where the call hands back one object that it has made -/
def TellT (w : World) (mean : ExcName → Option Value) (mg mb : Str → Option Value) (f : Addr) (need : Nat) (vs : List Value) (Out : Obj → Prop) : Prop :=
  ∀ (dp un : Nat) (gd : Option (List Code)) (cn : Str) (cs : Scope) (a : Addr) (ccd : Value) (cl : List (Str × Addr)) (outer : List Env) (A₀ : Around) (base h₀ : Heap) (L : Addr) (m : Str → Option Value) (news : List (Addr × Obj)) (s : Shared) (Q E : Value → Shared → Prop),
    Below A₀ base outer h₀ → Fr h₀ L s.heap m → (hd.heap_39 w.params).In h₀ → News h₀ L s.heap news → TopM mean mg mb h₀ → cs.kind = .function → dp + need < recursionLimit → un + 8 * need < cLine →
    (∀ D o h' tk', Fr h₀ L h' m → News h₀ L h' ((D, o) :: news) → (∀ q ∈ news, q.1 < D) → Out o → Q (.ref D) { s with heap := h', toks := tk' }) →
    wpAny (model PySem.Challenge.rw_on0257_01.row.prog w) (ktrTop dp un gd cn cs L a ccd cl outer) (call (.ref f) vs) Q E s
theorem TellT.use {w : World} {mean : ExcName → Option Value} {mg mb : Str → Option Value} {f : Addr} {need : Nat} {vs : List Value} {Out : Obj → Prop} (T : TellT w mean mg mb f need vs Out)
    {dp un : Nat} {gd : Option (List Code)} {cn : Str} {cs : Scope} {a : Addr} {ccd : Value} {cl : List (Str × Addr)} {outer : List Env} {A₀ : Around} {base h₀ : Heap} {L : Addr} {m : Str → Option Value} {news : List (Addr × Obj)} {s : Shared} {Q E : Value → Shared → Prop}
    (B : Below A₀ base outer h₀) (F : Fr h₀ L s.heap m) (X : (hd.heap_39 w.params).In h₀) (N : News h₀ L s.heap news) (Tp : TopM mean mg mb h₀) (hk : cs.kind = .function) (hd1 : dp + need < recursionLimit) (hu : un + 8 * need < cLine)
    (ret : ∀ D o h' tk', Fr h₀ L h' m → News h₀ L h' ((D, o) :: news) → (∀ q ∈ news, q.1 < D) → Out o → Q (.ref D) { s with heap := h', toks := tk' }) :
    wpAny (model PySem.Challenge.rw_on0257_01.row.prog w) (ktrTop dp un gd cn cs L a ccd cl outer) (call (.ref f) vs) Q E s :=
  T _ _ _ _ _ _ _ _ _ _ _ _ _ _ _ _ _ _ B F X N Tp hk hd1 hu ret
theorem news_skip {h₀ h : Heap} {L : Addr} {p : Addr × Obj} {own news : List (Addr × Obj)} (N : News h₀ L h (p :: (own ++ news))) : News h₀ L h (p :: news) := fun q hq => by
  rcases List.mem_cons.mp hq with rfl | hq
  · exact N _ (.head _)
  · exact N _ (.tail _ (List.mem_append_right _ hq))
theorem lt_skip {D : Addr} {own news : List (Addr × Obj)} (h : ∀ p ∈ own ++ news, p.1 < D) : ∀ p ∈ news, p.1 < D := fun p hp => h p (List.mem_append_right _ hp)
end Mine
end
section
open PySem PySem.W PyProof.Rows PySem.Calls
namespace Mine
def digV (c : Int) : Option Int :=
  if 48 ≤ c ∧ c ≤ 57 then some (c - 48) else if 65 ≤ c ∧ c ≤ 90 then some (c - 55) else if 97 ≤ c ∧ c ≤ 122 then some (c - 87) else none
set_option maxRecDepth 100000 in
set_option maxHeartbeats 8000000 in
theorem digit_value_tells (w : World) (mean : ExcName → Option Value) (mg mb : Str → Option Value) (c : Int) (tk : Tok) : Tell w mean mg mb 54 1 [.int c tk] (OutOpt (digV c)) := by
  unfold Tell
  k_fill
  intro dp un gd cn cs a ccd cl outer A₀ base h₀ L m news s Q E hB hF hK hN hT hk hd1 hu hret
  refine wpAny_call ?_
  k_dflt cell_enter
  k_steps
  all_goals (refine hret _ _ _ ?f ?n ?o; (case f => assumption); (case n => assumption); (case o => (unfold OutOpt digV; first
    | (right; refine ⟨_, _, ?_, rfl⟩; (repeat' split) <;> first | rfl | omega)
    | (left; refine ⟨?_, rfl⟩; (repeat' split) <;> first | rfl | omega))))
end Mine
end
section
open PySem PySem.W PyProof.Rows PySem.Calls
namespace Mine
def figStep (acc : Option Int) (c : Int) : Option Int := match acc with
  | none => none
  | some a => match digV c with
    | none => none
    | some d => if 10 ≤ d then none else some (a * 10 + d)
def figAcc (l : List Int) : Option Int := l.foldl figStep (some 0)
def figV (l : List Int) : Option Int := if l.length = 0 then none else figAcc l
theorem figStep_none (l : List Int) : l.foldl figStep none = none := by
  induction l with
  | nil => rfl
  | cons a l ih => exact ih
theorem figAcc_snoc (l : List Int) (c : Int) : figAcc (l ++ [c]) = figStep (figAcc l) c := by
  unfold figAcc; rw [List.foldl_append]; rfl
theorem figAcc_stop {l pre post : List Int} {c : Int} (e : l = pre ++ c :: post) (h : figStep (figAcc pre) c = none) : figAcc l = none := by
  subst e
  unfold figAcc at *
  rw [List.foldl_append, List.foldl_cons, h]
  exact figStep_none post

theorem fig_turn {pre : List Int} {c f d : Int} (h : figAcc pre = some f) (hd : digV c = some d) (hn : ¬ 10 ≤ d) : figAcc (pre ++ [c]) = some (f * 10 + d) := by
  rw [figAcc_snoc, h]; simp only [figStep, hd, if_neg hn]
theorem fig_stop1 {b : List Int} {pre post : List Int} {c f : Int} (e : b = pre ++ c :: post) (h : figAcc pre = some f) (hd : digV c = none) : figAcc b = none :=
  figAcc_stop e (by rw [h]; simp only [figStep, hd])
theorem fig_stop2 {b : List Int} {pre post : List Int} {c f d : Int} (e : b = pre ++ c :: post) (h : figAcc pre = some f) (hd : digV c = some d) (hn : 10 ≤ d) : figAcc b = none :=
  figAcc_stop e (by rw [h]; simp only [figStep, hd, if_pos hn])
theorem figV_none {b : Array UInt8} (h : figAcc (KBw.bInts b) = none) : OutOpt (figV (KBw.bInts b)) .none := .inl ⟨by unfold figV; split <;> first | rfl | exact h, rfl⟩
theorem figV_empty {b : Array UInt8} (h : ((b.size : Nat) : Int) = 0) : OutOpt (figV (KBw.bInts b)) .none := .inl ⟨by unfold figV; rw [if_pos (by rw [KBw.ints_length]; omega)], rfl⟩
theorem figV_some {b : Array UInt8} {x : Int} {t : Tok} (hn : ((b.size : Nat) : Int) ≠ 0) (h : figAcc (KBw.bInts b) = some x) : OutOpt (figV (KBw.bInts b)) (.int x t) := .inr ⟨x, t, by unfold figV; rw [if_neg (by rw [KBw.ints_length]; omega)]; exact h, rfl⟩
local macro_rules | `(tactic| walk_at $s:str) => `(tactic| k_extra $s)
set_option maxRecDepth 100000 in
set_option maxHeartbeats 8000000 in
theorem figures_value_tells (w : World) (mean : ExcName → Option Value) (mg mb : Str → Option Value) (b : Array UInt8) (tb tk : Tok) (hb : b.size ≤ 1000) : Tell w mean mg mb 75 3 [.bytes b tb, .int 10 tk] (OutOpt (figV (KBw.bInts b))) := by
  unfold Tell
  k_fill
  intro dp un gd cn cs a ccd cl outer A₀ base h₀ L m news s Q E hB hF hK hN hT hk hd1 hu hret
  refine wpAny_call ?_
  k_dflt cell_enter
  k_with_none
  k_with "call ref" => (((with_reducible show wpAny _ _ (PySem.call _ [Value.int _ _]) _ _ _); (k_here; k_dflt (refine' Tell.use (digit_value_tells _ _ _ _ _ _) ?tB ?tF ?tX ?tN ?tT ?tk ?td ?tu ?_; (case tB => k_asm); (case tF => k_asm); (case tX => k_asm); (case tN => k_asm); (case tT => k_asm); (case tk => first | exact rfl | assumption); (case td => ktr_room); (case tu => ktr_units); k_whole); intro r9 h' tk' F' N' O9; (try k_sweep); rcases O9 with ⟨hD9, hr9⟩ | ⟨x9, t9, hD9, hr9⟩ <;> subst hr9)))
  k_with "pyIter bytes" => k_state (fun pre found => figAcc pre = some found) "found"
  k_with "state" => first | exact rfl | exact fig_turn (by assumption) (by assumption) (by assumption)
  k_steps
  all_goals try (refine hret _ _ _ ?f ?n ?o; (case f => assumption); (case n => first | assumption | exact cb_drop (by assumption) (fun p hp => List.mem_append_left _ hp)); (case o => first
    | exact figV_empty (by assumption)
    | exact figV_some (by assumption) (by assumption)
    | exact figV_none (fig_stop1 (by assumption) (by assumption) (by assumption))
    | exact figV_none (fig_stop2 (by assumption) (by assumption) (by assumption) (by assumption))))
end Mine
end
section
open PySem PySem.W PyProof.Rows PySem.Calls
namespace Mine
def cntV (l : List Int) : Int := l.foldl (fun a c => a * 10 + c - 48) 0
theorem cnt_turn {pre : List Int} {c f : Int} (h : f = cntV pre) : f * 10 + c - 48 = cntV (pre ++ [c]) := by
  subst h; unfold cntV; rw [List.foldl_append]; rfl
def OutInt (x : Int) (r : Value) : Prop := ∃ t, r = .int x t
set_option maxRecDepth 100000 in
set_option maxHeartbeats 8000000 in
theorem law_count_tells (w : World) (mean : ExcName → Option Value) (mg mb : Str → Option Value) (b : Array UInt8) (tb : Tok) (hb : b.size ≤ 1000) : Tell w mean mg mb 143 3 [.bytes b tb] (OutInt (cntV (KBw.bInts b))) := by
  unfold Tell
  k_fill
  intro dp un gd cn cs a ccd cl outer A₀ base h₀ L m news s Q E hB hF hK hN hT hk hd1 hu hret
  refine wpAny_call ?_
  k_dflt cell_enter
  k_with_none
  k_with "pyIter bytes" => k_state (fun pre found => found = cntV pre) "found"
  k_with "state" => first | exact rfl | exact cnt_turn (by assumption)
  k_steps
  all_goals try (refine hret _ _ _ ?f ?n ?o; (case f => assumption); (case n => first | assumption | exact cb_drop (by assumption) (fun p hp => List.mem_append_left _ hp)); (case o => (subst_vars; exact ⟨_, rfl⟩)))
end Mine
end
section
open PySem PySem.W PyProof.Rows PySem.Calls
set_option maxRecDepth 100000
namespace Mine
section
variable {prog : Program} {w : World} {A : Around} {E : Value → Shared → Prop} {s : Shared} {b : Array UInt8} {t : Tok}

theorem nextOf_bytes_item {it : Addr} {i : Nat} {c : UInt8} {Q : Value → Shared → Prop} (hit : KBw.IsBytesIter s.heap it b t i) (hx : b[i]? = some c)
    (hQ : ∀ h', KBw.IsBytesIter h' it b t (i + 1) → Heap.SameBut it s.heap h' → Q (.int (c.toNat : Int) s.toks) { s with heap := h', toks := s.toks + 1 }) :
    wpAny (model prog w) A (Builtin.SmallTypes.nextOf (.ref it)) Q E s := by
  obtain ⟨o, ho, hc, hd⟩ := id hit
  unfold Builtin.SmallTypes.nextOf
  refine wpAny_bind (wpAny_callSpecial?_slot (name := PySem.Str.ofString "__next__") (KBw.iter_typeIs hit) KBw.slot_next
    (wpAny_call_entry KBw.slot_next (KBw.iter_typeIs hit) KBw.entry_next ?_ (KBw.args_next _)))
  show wpAny _ _ (field (.ref it) 0 >>= _) _ _ s
  refine wpAny_bind (wpAny_field ho hd (x := .bytes b t) rfl ?_)
  show wpAny _ _ (if (Value.bytes b t == Value.none) = true then _ else _) _ _ s
  rw [if_neg (show ¬ ((Value.bytes b t == Value.none) = true) from Bool.false_ne_true)]
  show wpAny _ _ (field (.ref it) 1 >>= _) _ _ s
  refine wpAny_bind (wpAny_field ho hd (x := .int i 0) rfl ?_)
  refine wpAny_bind (wpAny_of_eq (a := b) rfl ?_)
  simp only [Int.toNat_natCast, hx]
  refine wpAny_bind (wpAny_setField ho hd (by simp) (wpAny_bind (wpAny_mkInt (wpAny_pure ⟨_, rfl, wpAny_pure (hQ _ ?_ (Heap.SameBut.update ..))⟩))))
  exact ⟨_, Heap.get?_update_self _ ho (Obj.isFreed_of_fields (Obj.data_mapFields hd _)), (Obj.cls_mapFields ..).trans hc, by
    rw [Obj.data_mapFields hd]; simp [rawInt]⟩

theorem nextOf_bytes_end {it : Addr} {i : Nat} {Q : Value → Shared → Prop} (hh : A.handled = none) (hit : KBw.IsBytesIter s.heap it b t i) (hx : b[i]? = none)
    (hE : ∀ h' e, Heap.ExtBut it s.heap h' → (∃ o, h'.get? e = some o ∧ o.cls = .type "StopIteration") → E (.ref e) { s with heap := h' }) :
    wpAny (model prog w) A (Builtin.SmallTypes.nextOf (.ref it)) Q E s := by
  obtain ⟨o, ho, hc, hd⟩ := id hit
  unfold Builtin.SmallTypes.nextOf
  refine wpAny_bind (wpAny_callSpecial?_slot (name := PySem.Str.ofString "__next__") (KBw.iter_typeIs hit) KBw.slot_next
    (wpAny_call_entry KBw.slot_next (KBw.iter_typeIs hit) KBw.entry_next ?_ (KBw.args_next _)))
  show wpAny _ _ (field (.ref it) 0 >>= _) _ _ s
  refine wpAny_bind (wpAny_field ho hd (x := .bytes b t) rfl ?_)
  show wpAny _ _ (if (Value.bytes b t == Value.none) = true then _ else _) _ _ s
  rw [if_neg (show ¬ ((Value.bytes b t == Value.none) = true) from Bool.false_ne_true)]
  show wpAny _ _ (field (.ref it) 1 >>= _) _ _ s
  refine wpAny_bind (wpAny_field ho hd (x := .int i 0) rfl ?_)
  refine wpAny_bind (wpAny_of_eq (a := b) rfl ?_)
  simp only [Int.toNat_natCast, hx]
  refine wpAny_bind (wpAny_rule (wpAny_bind (wpAny_setField ho hd (by simp) ?_)))
  show wpAny _ _ (newExc (.type "StopIteration") [] >>= _) _ _ _
  refine wpAny_bind ?_
  simp only [newExc, newTuple]
  refine wpAny_bind (wpAny_newObj_type ?_ (by size_fits))
  refine wpAny_bind (m := firstArgMember _ _) (wpAny_of_eq (a := Value.none) (by first | rfl | (simp only [firstArgMember]; rfl)) ?_)
  refine wpAny_newObj_type ?_ (by size_fits)
  simp only [raiseNew]
  refine wpAny_bind (wpAny_handled ?_)
  first | rw [show A.in1.handled = none from hh] | rw [hh]
  refine wpAny_bind (wpAny_pure (wpAny_throw ?_))
  exact hE _ _ (((Heap.SameBut.update ..).extBut.push _).push _) ⟨_, Heap.get?_push_size _ rfl, rfl⟩
end

theorem draws_bytes {prog : Program} {w : World} {A : Around} (hh : A.handled = none) (it : Addr) (b : Array UInt8) (t : Tok) :
    Draws prog w A it [it] b.size (fun i v => ∃ c u, b[i]? = some c ∧ v = .int (c.toNat : Int) u) (fun i h => KBw.IsBytesIter h it b t i) where
  live := fun _ _ st => let ⟨o, ho, _⟩ := st; ⟨o, ho⟩
  frame := fun _ _ _ st hk => let ⟨o, ho, r⟩ := st; ⟨o, hk it (by simp) o ho, r⟩
  item := fun i s Q E hi st hQ => by
    refine nextOf_bytes_item st (c := b[i]) (by simp [hi]) fun h' hit' hs' => ?_
    exact hQ _ h' (s.toks + 1) ⟨_, _, by simp [hi], rfl⟩ hit' hs'
  done := fun s Q E st hE => nextOf_bytes_end hh st (by simp) hE

set_option maxHeartbeats 1000000 in
theorem meets_enumerate_bytes (b : Array UInt8) (t : Tok) :
    Meets (Builtin.«enumerate.__new__» ⟨[.type "enumerate", .bytes b t], []⟩) (fun _ R s =>
      R (.ok (.ret (.ref (s.heap.push { cls := .type "bytes_iterator", data := .fields #[.bytes b t, .int 0 0] }).objs.size)))
        { s with heap := (s.heap.push { cls := .type "bytes_iterator", data := .fields #[.bytes b t, .int 0 0] }).push { cls := .type "enumerate", data := .fields #[.none, .bool false, .ref s.heap.objs.size, rawInt 0, .none, .none] } }) :=
  .of_wp fun prog w A R s h => by
    obtain ⟨hp, g, d, tk, os⟩ := s
    have hsub := sub_enumerate
    wp_walk
    refine wpAny_stack_any fun st => wpAny_pure ?_
    split
    · rename_i c _ _ _ _ _
      cases (c == Value.type "enumerate")
      · wp_walk using KBw.pyIter_bytes
        exact ⟨_, rfl, h⟩
      · wp_walk using KBw.pyIter_bytes
        exact ⟨_, rfl, h⟩
    · wp_walk using KBw.pyIter_bytes
      exact ⟨_, rfl, h⟩

section
variable {prog : Program} {w : World} {A : Around} {E : Value → Shared → Prop} {s : Shared} {h₀ : Heap} {L : Addr} {m : Str → Option Value} {news : List (Addr × Obj)}
theorem call_enumerate_bytes {b : Array UInt8} {t : Tok} {Q : Value → Shared → Prop}
    (h : ∀ h', IsEnum h' (s.heap.objs.size + 1) s.heap.objs.size 0 .none → KBw.IsBytesIter h' s.heap.objs.size b t 0 → h'.objs.size = s.heap.objs.size + 2 →
      (∀ b o, s.heap.get? b = some o → h'.get? b = some o) → Q (.ref (s.heap.objs.size + 1)) { s with heap := h' }) :
    wpAny (model prog w) A (call (.type "enumerate") [.bytes b t]) Q E s := by
  refine callType_new F.called_enumerate (by decide) (F.typeCall_enumerate_1 _) (F.newCall_enumerate_1 _) (fun obj => F.args_object_init_2 obj _) F.entry_enumerate_new
    (meets_enumerate_bytes b t) ?_
  have hz : (s.heap.push { cls := .type "bytes_iterator", data := .fields #[.bytes b t, .int 0 0] }).objs.size = s.heap.objs.size + 1 := Heap.size_push ..
  show _ ∧ _
  rw [hz]
  have he : IsEnum ((s.heap.push { cls := .type "bytes_iterator", data := .fields #[.bytes b t, .int 0 0] }).push
      { cls := .type "enumerate", data := .fields #[.none, .bool false, .ref s.heap.objs.size, rawInt 0, .none, .none] }) (s.heap.objs.size + 1) s.heap.objs.size 0 .none := by
    have := Heap.get?_push_size (s.heap.push { cls := .type "bytes_iterator", data := .fields #[.bytes b t, .int 0 0] })
      (o := { cls := .type "enumerate", data := .fields #[.none, .bool false, .ref s.heap.objs.size, rawInt 0, .none, .none] }) rfl
    rw [hz] at this; exact this
  refine ⟨⟨_, he, rfl⟩, h _ he ⟨_, Heap.get?_push_of_some _ (Heap.get?_push_size _ rfl), rfl, rfl⟩ (by rw [Heap.size_push, hz]) fun b o y => Heap.get?_push_of_some _ (Heap.get?_push_of_some _ y)⟩

theorem call_enum_bytes {b : Array UInt8} {t : Tok} {Q : Value → Shared → Prop} (hh : A.handled = none) (F : Fr h₀ L s.heap m) (N : News h₀ L s.heap news)
    (h : ∀ h' e, Fr h₀ L h' m → News h₀ L h' news → PairSrcL prog w A E h₀ L ItemKind.int (KBw.bInts b) (.ref e) { s with heap := h' } m news → Q (.ref e) { s with heap := h' }) :
    wpAny (model prog w) A (call (.type "enumerate") [.bytes b t]) Q E s := by
  have hLs : L < s.heap.objs.size := F.ns.lt
  have hab : h₀.objs.size ≤ L := F.above
  refine call_enumerate_bytes fun h' he hit hsz hk => ?_
  have F' : Fr h₀ L h' m := ⟨F.ns.keeps hk, fun b o e => hk b o (F.keep b o e), F.above⟩
  have N' : News h₀ L h' news := fun p hp => ⟨hk _ _ (N p hp).1, (N p hp).2⟩
  refine h h' _ F' N' fun env hL => ?_
  subst hL
  have side1 : s.heap.objs.size + 1 ∉ [s.heap.objs.size] := fun hm => Nat.succ_ne_self _ (List.mem_singleton.mp hm)
  have side2 : env.locals ∉ [s.heap.objs.size + 1, s.heap.objs.size] := fun hm => by
    rcases List.mem_cons.mp hm with e | hm
    · exact Nat.ne_of_lt (Nat.lt_succ_of_lt hLs) e
    · exact Nat.ne_of_lt hLs (List.mem_singleton.mp hm)
  have side3 : ∀ b ∈ [s.heap.objs.size + 1, s.heap.objs.size], ∀ q ∈ news, b ≠ q.1 := fun b hb q hq e => by
    have hq1 : q.1 < s.heap.objs.size := Heap.lt_size (N q hq).1
    rcases List.mem_cons.mp hb with e1 | hb
    · exact Nat.ne_of_gt (Nat.lt_succ_of_lt hq1) (e1.symm.trans e)
    · exact Nat.ne_of_gt hq1 ((List.mem_singleton.mp hb).symm.trans e)
  have hP : ∀ (i : Nat) v, (∃ (c : UInt8) (u : Tok), b[i]? = some c ∧ v = Value.int (c.toNat : Int) u) → ∃ a, (KBw.bInts b)[i]? = some a ∧ ItemKind.int.is a v := fun i v hv => by
    obtain ⟨c, u, hc, rfl⟩ := hv
    exact ⟨_, KBw.ints_get hc, u, rfl⟩
  exact enumSrc (draws_bytes (A := A.in1) hh s.heap.objs.size b t) he hit (Nat.succ_ne_self _) side1 (by simp) side2 (Heap.get?_none_of_le (Nat.le_trans hab (Nat.le_of_lt (Nat.lt_succ_of_lt hLs)))) (Heap.get?_none_of_le (Nat.le_trans hab (Nat.le_of_lt hLs))) side3 (KBw.ints_length b).symm hP F' N'

def ScanNext (h₀ : Heap) (L : Addr) (xi xc : Str) (m : Str → Option Value) (own news : List (Addr × Obj)) (P : Prop) (s₀ s₂ : Shared) : Prop :=
  ∃ h' tk' u' v', s₂ = { s₀ with heap := h', toks := tk' } ∧ Fr h₀ L h' (fun y => if y = xc then v' else if y = xi then u' else m y) ∧ News h₀ L h' (own ++ news) ∧ P

/-- a loop over pairs that stores nothing and may leave early -/
theorem pair_scan {env : Env} {as : List Int} {xv : Value} {xi xc : Str} {body : List Stmt} {Q : Flow → Shared → Prop} (P : List Int → Prop) (S : PairSrc prog w A E h₀ env ItemKind.int as xv s m news) (hP : P [])
    (turn : ∀ (i : Nat) (a : Int) (t ta : Tok) (pre post : List Int) h tk own, as = pre ++ a :: post → pre.length = i → P pre → Fr h₀ env.locals h (fun y => if y = xc then some (.int a ta) else if y = xi then some (.int i t) else m y) → News h₀ env.locals h (own ++ news) →
      wpAny (model prog w) A (execs body env) (fun f s₂ => match f with
        | .ret r => Q (.ret r) s₂
        | .next => ScanNext h₀ env.locals xi xc m own news (P (pre ++ [a])) { s with heap := h, toks := tk } s₂
        | _ => False) E { s with heap := h, toks := tk })
    (done : ∀ h tk u v, Fr h₀ env.locals h (fun y => if y = xc then v else if y = xi then u else m y) → News h₀ env.locals h news → P as → Q .next { s with heap := h, toks := tk }) :
    wpAny (model prog w) A (pyIter xv) (fun it s₂ => PairAt3 prog w A h₀ env xi xc body Q E it s₂) E s := by
  refine S xi xc body Q (fun i m₁ news₁ => news₁ = news ∧ (∃ u v, m₁ = fun y => if y = xc then v else if y = xi then u else m y) ∧ P (as.take i)) ⟨rfl, ⟨m xi, m xc, ?_⟩, by simpa using hP⟩ ?_ ?_
  · funext y
    by_cases h1 : y = xc
    · rw [if_pos h1, h1]
    · rw [if_neg h1]
      by_cases h2 : y = xi
      · rw [if_pos h2, h2]
      · rw [if_neg h2]
  · rintro i a t v₀ m₁ news₁ s₁ own ⟨h, tk, rfl⟩ ha ⟨ta, rfl⟩ ⟨rfl, ⟨u, v, rfl⟩, hp⟩ _ _ F N
    have em : (fun y => if y = xc then some (.int a ta) else if y = xi then some (.int i t) else if y = xc then v else if y = xi then u else m y) = fun y => if y = xc then some (Value.int a ta) else if y = xi then some (.int i t) else m y := by
      funext y
      by_cases h1 : y = xc
      · rw [if_pos h1, if_pos h1]
      · rw [if_neg h1, if_neg h1]
        by_cases h2 : y = xi
        · rw [if_pos h2, if_neg h1, if_pos h2]
        · rw [if_neg h2, if_neg h1, if_neg h2, if_neg h2]
    rw [em] at F
    have hs : as.take (i + 1) = as.take i ++ [a] := by simp [List.take_add_one, ha]
    have e : as = as.take i ++ a :: as.drop (i + 1) := by
      have ht := List.take_append_drop (i + 1) as
      rw [hs, List.append_assoc] at ht
      exact ht.symm
    have hlen : (as.take i).length = i := by
      rw [List.length_take]
      have := (List.getElem?_eq_some_iff.mp ha).1
      omega
    refine wpAny_mono (turn i a t ta _ _ h tk own e hlen hp F N) (fun f s₂ hf => ?_) fun _ _ x => x
    cases f with
    | ret r => exact hf
    | brk => exact hf.elim
    | cont => exact hf.elim
    | next =>
      obtain ⟨h', tk', u', v', rfl, F', N', hp'⟩ := hf
      exact ⟨rfl, h', tk', _, news₁, rfl, F', N', rfl, rfl, ⟨u', v', rfl⟩, by rw [hs]; exact hp'⟩
  · rintro h tk m' news' F N _ ⟨rfl, ⟨u, v, rfl⟩, hp⟩
    rw [List.take_length] at hp
    exact done h tk u v F N hp
end
end Mine
end
section
open PySem PySem.W PyProof.Rows PySem.Calls
set_option maxRecDepth 100000
namespace Mine
open Builtin in
theorem gives_bytes_contains (b : Array UInt8) (t u : Tok) (k : Int) (h0 : 0 ≤ k) (h1 : k < 256) : Gives («bytes.__contains__» ⟨[.bytes b t, .int k u], []⟩) (.val (.bool (b.contains k.toNat.toUInt8))) := by
  refine .of_wp fun M A E s Q hq => ?_
  show wpAny M A (Bytes.containsIn "bytes.__contains__" (.bytes b t) (.int k u) >>= fun r => _) _ E s
  refine wpAny_bind ?_
  unfold Bytes.containsIn
  refine wpAny_bind (wpAny_attempt (wpAny_of_eq (rfl : asIndex (.int k u) = pure k) ?_))
  refine wpAny_bind (wpAny_of_eq KBy.buffer_eq ?_)
  show wpAny M A (if (decide (k < 0) || decide (k ≥ 256)) = true then _ else _) _ E s
  rw [if_neg (by simp only [Bool.or_eq_true, decide_eq_true_eq]; omega)]
  exact wpAny_pure (wpAny_pure ⟨_, rfl, hq⟩)
theorem contains_iff {sg : Array UInt8} {k : Int} (h0 : 0 ≤ k) (h1 : k < 256) : sg.contains k.toNat.toUInt8 = true ↔ k ∈ KBw.bInts sg := by
  have e : ((k.toNat.toUInt8).toNat : Int) = k := by
    have : (k.toNat.toUInt8).toNat = k.toNat := by
      show (UInt8.ofNat k.toNat).toNat = k.toNat
      rw [UInt8.toNat_ofNat']; omega
    omega
  unfold KBw.bInts
  rw [Array.contains_iff_mem]
  constructor
  · intro h
    refine List.mem_map.mpr ⟨_, ?_, e⟩
    simpa using h
  · intro h
    obtain ⟨c, hc, hk⟩ := List.mem_map.mp h
    have : c = k.toNat.toUInt8 := by
      apply UInt8.toNat_inj.mp
      omega
    rw [← this]
    simpa using hc
section
variable {prog : Program} {w : World} {A : Around} {E : Value → Shared → Prop} {s : Shared}
theorem in_bytes_int {b : Array UInt8} {t u : Tok} {k : Int} {Q : Value → Shared → Prop} (h0 : 0 ≤ k) (h1 : k < 256) (hy : k ∈ KBw.bInts b → Q (.bool true) s) (hn : k ∉ KBw.bInts b → Q (.bool false) s) :
    wpAny (model prog w) A (compareOp .In (.int k u) (.bytes b t)) Q E s := by
  refine in_gives (typeIs_bytes s b t) FB.slot_bytes_contains FB.entry_bytes_contains (FB.args_bytes_contains_2 _ _) (gives_bytes_contains b t u k h0 h1) ?_
  by_cases h : b.contains k.toNat.toUInt8 = true
  · rw [h]; exact hy ((contains_iff h0 h1).mp h)
  · have h' : b.contains k.toNat.toUInt8 = false := by simpa using h
    rw [h']; exact hn fun hm => h ((contains_iff h0 h1).mpr hm)
end
end Mine
end
section
open PySem PySem.W PyProof.Rows PySem.Calls
namespace Mine
local macro_rules | `(tactic| walk_at "no key 0") => `(tactic| skip)
def offS (sg : List Int) (pre : List Int) : Prop := ∀ x ∈ pre, x ∉ sg
theorem offS_snoc {sg pre : List Int} {c : Int} (h : offS sg pre) (hc : c ∉ sg) : offS sg (pre ++ [c]) := fun x hx => by
  rcases List.mem_append.mp hx with hx | hx
  · exact h x hx
  · rw [List.mem_singleton.mp hx]; exact hc
noncomputable def splitV (sg : List Int) : List Int → List Int × Option (List Int)
  | [] => ([], none)
  | c :: r => if c ∈ sg then ([], some r) else (c :: (splitV sg r).1, (splitV sg r).2)
theorem splitV_off {sg : List Int} : ∀ {l : List Int}, offS sg l → splitV sg l = (l, none)
  | [], _ => rfl
  | c :: r, h => by
    have hr := splitV_off (l := r) fun x hx => h x (.tail _ hx)
    unfold splitV
    rw [if_neg (h c (.head _)), hr]
theorem splitV_at {sg : List Int} {c : Int} {post : List Int} (hc : c ∈ sg) : ∀ {pre : List Int}, offS sg pre → splitV sg (pre ++ c :: post) = (pre, some post)
  | [], _ => by unfold splitV; exact if_pos hc
  | d :: r, h => by
    have hr := splitV_at (post := post) hc (pre := r) fun x hx => h x (.tail _ hx)
    show splitV sg (d :: (r ++ c :: post)) = _
    unfold splitV
    rw [if_neg (h d (.head _)), hr]
def IsOptB (o : Option (List Int)) (v : Value) : Prop := match o with
  | none => v = .none
  | some l => ∃ y t, v = .bytes y t ∧ KBw.bInts y = l
def OutSplit (p : List Int × Option (List Int)) (o : Obj) : Prop := ∃ x t v, o = { cls := .type "tuple", data := .seq #[.bytes x t, v] } ∧ KBw.bInts x = p.1 ∧ IsOptB p.2 v
theorem outSplit_none {b sg : Array UInt8} {t : Tok} (h : offS (KBw.bInts sg) (KBw.bInts b)) : OutSplit (splitV (KBw.bInts sg) (KBw.bInts b)) { cls := .type "tuple", data := .seq #[.bytes b t, .none] } :=
  ⟨b, t, .none, rfl, by rw [splitV_off h], by rw [splitV_off h]; exact rfl⟩
theorem outSplit_some {b sg x y : Array UInt8} {t u : Tok} {pre post : List Int} {c : Int} (e : KBw.bInts b = pre ++ c :: post) (h : offS (KBw.bInts sg) pre) (hc : c ∈ KBw.bInts sg)
    (hx : KBw.bInts x = List.take (min pre.length (pre ++ c :: post).length) (pre ++ c :: post))
    (hy : KBw.bInts y = List.take ((pre ++ c :: post).length - clipAt (pre ++ c :: post).length (↑pre.length + 1)) (List.drop (clipAt (pre ++ c :: post).length (↑pre.length + 1)) (pre ++ c :: post))) :
    OutSplit (splitV (KBw.bInts sg) (KBw.bInts b)) { cls := .type "tuple", data := .seq #[.bytes x t, .bytes y u] } := by
  have hl : (pre ++ c :: post).length = pre.length + (post.length + 1) := by simp
  have hk : clipAt (pre ++ c :: post).length (↑pre.length + 1) = pre.length + 1 := by
    have := clipAt_nat (pre ++ c :: post).length (pre.length + 1)
    rw [show ((pre.length : Int) + 1) = ((pre.length + 1 : Nat) : Int) by push_cast; rfl, this, hl]
    omega
  rw [e, splitV_at hc h]
  refine ⟨x, t, _, rfl, ?_, y, u, rfl, ?_⟩
  · rw [hx, hl, Nat.min_eq_left (by omega)]
    simp
  · rw [hy, hk, hl]
    have : pre ++ c :: post = (pre ++ [c]) ++ post := by simp
    rw [this, List.drop_append_of_le_length (by simp), List.take_of_length_le]
    · simp
    · simp; omega
local macro_rules | `(tactic| walk_at $s:str) => `(tactic| k_extra $s)
set_option maxRecDepth 100000 in
set_option maxHeartbeats 8000000 in
theorem split_at_tells (w : World) (mean : ExcName → Option Value) (mg mb : Str → Option Value) (b : Array UInt8) (sg : Array UInt8) (tb ts : Tok) (hb : b.size ≤ 1000) : TellT w mean mg mb 96 3 [.bytes b tb, .bytes sg ts] (OutSplit (splitV (KBw.bInts sg) (KBw.bInts b))) := by
  unfold TellT
  k_fill
  intro dp un gd cn cs a ccd cl outer A₀ base h₀ L m news s Q E hB hF hK hN hT hk hd1 hu hret
  refine wpAny_call ?_
  k_dflt cell_enter
  k_with_none
  k_with "call type:enumerate" => ((k_here; (with_reducible show wpAny _ _ (PySem.call (Value.type _) [Value.bytes _ _]) _ _ _); k_dflt (refine' call_enum_bytes ?hh ?hF ?hN ?_; (case hh => exact rfl); (case hF => k_asm); (case hN => k_asm); k_whole); intro h' e' F' N' S'; (try k_sweep)))
  k_with "pyIter ref" => (((with_reducible show wpAny _ _ _ (fun it s₂ => PairAt3 _ _ _ _ _ _ _ _ _ _ it s₂) _ _); k_extra "pair"))
  k_with "compareOp In int bytes" => ((k_here; (refine in_bytes_int (by omega) (by omega) ?_ ?_) <;> intro hM9))
  k_with "ScanNext" => ((exact ⟨_, _, _, _, rfl, by assumption, by assumption, offS_snoc (by assumption) (by assumption)⟩))
  k_with "pair" => (rename PairSrcL _ _ _ _ _ _ _ _ _ _ _ _ => S9); (with_unfolding_all refine pair_scan (offS (KBw.bInts sg)) (S9 _ rfl) ?p0 ?pT ?pD); (case' pT => (intro i9 c9 t9 tc9 pre9 post9 h9 tk9 own9 e9 l9 hP9 F9 N9; (have hc9 := KBw.ints_in (b := b) (k := c9) (by rw [e9]; simp)); (have hl9 : pre9.length + (post9.length + 1) = b.size := by rw [← KBw.ints_length b, e9]; simp); subst l9)); (case' pD => (intro h9 tk9 u9 v9 F9 N9 hP9)); (case p0 => exact fun x hx => nomatch hx)
  k_steps
  all_goals (refine' hret _ _ _ _ ?f ?n ?l ?o; (case f => assumption); (case n => first | assumption | exact news_skip (by assumption)); (case l => first | assumption | exact lt_skip (by assumption)); (case o => first | exact outSplit_none (by assumption) | exact outSplit_some (by assumption) (by assumption) (by assumption) (by assumption) (by assumption)))
end Mine
end
section
open PySem PySem.W PyProof.Rows PySem.Calls PySem.SeqAt PySem.SeqRoads2 PySem.MeetsSeq
set_option maxRecDepth 100000
namespace Mine
theorem bInts_inj {b c : Array UInt8} (h : KBw.bInts b = KBw.bInts c) : b.toList = c.toList := by
  unfold KBw.bInts at h
  refine (List.map_inj_right ?_).mp h
  intro x y hxy
  exact UInt8.toNat_inj.mp (by omega)
theorem beq_ints (b c : Array UInt8) : (b.toList == c.toList) = decide (KBw.bInts b = KBw.bInts c) := by
  rw [Bool.eq_iff_iff, beq_iff_eq, decide_eq_true_eq]
  constructor
  · intro h; unfold KBw.bInts; rw [h]
  · exact bInts_inj
theorem EqAt_bytes {A : Around} {s : Shared} (b c : Array UInt8) (t u : Tok) : EqAt A s (.bytes b t) (.bytes c u) (decide (KBw.bInts b = KBw.bInts c)) := fun prog w E Q h => by
  rw [← beq_ints] at h
  unfold eqBool
  refine wpAny_holding ?_
  refine wpAny_ite_split (fun hab => ?_) (fun hab => ?_)
  · have e : b = c := by have := eq_of_beq hab; injection this
    subst e
    exact wpAny_bind (wpAny_rule (wpAny_pure (by simpa using h)))
  · exact wpAny_bind (richCompare_gives (typeIs_bytes s b t) (typeIs_bytes s c u) FB.slot_bytes_eq FB.entry_bytes_eq (FB.args_bytes_eq_2 _ _) (gives_bytes_eq b c t u) (by simp [Made.takes]) (wpAny_truthy_bool h))
def isBytesOf (x : Array UInt8) : Value → Bool
  | .bytes c _ => decide (KBw.bInts c = KBw.bInts x)
  | _ => false
section
variable {prog : Program} {w : World} {A : Around} {E : Value → Shared → Prop} {s : Shared} {h₀ : Heap} {L D : Addr} {news : List (Addr × Obj)}
theorem in_pair_bytes {x b1 b2 : Array UInt8} {t t1 t2 : Tok} {n : Nat} {Q : Value → Shared → Prop} (N : News h₀ L s.heap news) (hm : (D, ({ cls := .type "tuple", data := .seq #[.bytes b1 t1, .bytes b2 t2] n } : Obj)) ∈ news)
    (hy : KBw.bInts x = KBw.bInts b1 ∨ KBw.bInts x = KBw.bInts b2 → Q (.bool true) s) (hn : ¬ (KBw.bInts x = KBw.bInts b1 ∨ KBw.bInts x = KBw.bInts b2) → Q (.bool false) s) :
    wpAny (model prog w) A (compareOp .In (.bytes x t) (.ref D)) Q E s := by
  have hl : s.heap.IsTuple D #[.bytes b1 t1, .bytes b2 t2] := ⟨_, (N _ hm).1, rfl, _, rfl⟩
  refine in_tupleAt (isBytesOf x) hl (fun y hy => ?_) ?_
  · have : y = .bytes b1 t1 ∨ y = .bytes b2 t2 := by simpa using hy
    rcases this with rfl | rfl
    · exact EqAt_bytes _ _ _ _
    · exact EqAt_bytes _ _ _ _
  · have e : (#[Value.bytes b1 t1, Value.bytes b2 t2] : Array Value).any (isBytesOf x) = decide (KBw.bInts x = KBw.bInts b1 ∨ KBw.bInts x = KBw.bInts b2) := by
      rw [← Array.any_toList]
      show List.any [Value.bytes b1 t1, Value.bytes b2 t2] (isBytesOf x) = _
      simp only [List.any_cons, List.any_nil, Bool.or_false, isBytesOf, Bool.decide_or]
      rw [decide_eq_decide.mpr (eq_comm (a := KBw.bInts b1)), decide_eq_decide.mpr (eq_comm (a := KBw.bInts b2))]
    rw [e]
    by_cases h : KBw.bInts x = KBw.bInts b1 ∨ KBw.bInts x = KBw.bInts b2
    · rw [decide_eq_true h]; exact hy h
    · rw [decide_eq_false h]; exact hn h
theorem eq_bytes_ints {b c : Array UInt8} {t u : Tok} {Q : Value → Shared → Prop} (hy : KBw.bInts b = KBw.bInts c → Q (.bool true) s) (hn : KBw.bInts b ≠ KBw.bInts c → Q (.bool false) s) : wpAny (model prog w) A (compareOp .Eq (.bytes b t) (.bytes c u)) Q E s := by
  refine eq_bytes ?_
  rw [beq_ints]
  by_cases h : KBw.bInts b = KBw.bInts c
  · rw [decide_eq_true h]; exact hy h
  · rw [decide_eq_false h]; exact hn h
theorem ne_bytes_ints {b c : Array UInt8} {t u : Tok} {Q : Value → Shared → Prop} (hy : KBw.bInts b = KBw.bInts c → Q (.bool false) s) (hn : KBw.bInts b ≠ KBw.bInts c → Q (.bool true) s) : wpAny (model prog w) A (compareOp .NotEq (.bytes b t) (.bytes c u)) Q E s := by
  refine ne_bytes ?_
  rw [bne, beq_ints]
  by_cases h : KBw.bInts b = KBw.bInts c
  · rw [decide_eq_true h]; exact hy h
  · rw [decide_eq_false h]; exact hn h
end
end Mine
end
section
open PySem PySem.W PyProof.Rows PySem.Calls
namespace Mine
def capV (x : Int) : Int := if 10 ^ Int.toNat 6 < x then 10 ^ Int.toNat 6 else x
abbrev signed (l : List Int) : Prop := l.take 1 = [43] ∨ l.take 1 = [45]
def expV (l : List Int) : Option Int := (figV (if signed l then l.drop 1 else l)).map fun x => if l.take 1 = [45] then -(capV x) else capV x
theorem clip1 (n : Nat) : clipAt n 1 = min 1 n := clipAt_nat n 1
theorem clip0 (n : Nat) : clipAt n 0 = 0 := by have := clipAt_nat n 0; simpa using this
theorem take1 (l : List Int) : l.take (clipAt l.length 1) = l.take 1 := by rw [clip1]; cases l <;> simp
theorem drop1 (l : List Int) : (l.drop (clipAt l.length 1)).take (l.length - clipAt l.length 1) = l.drop 1 := by rw [clip1]; cases l <;> simp
theorem drop0 (l : List Int) : (l.drop (clipAt l.length 0)).take (l.length - clipAt l.length 0) = l := by rw [clip0]; simp
section
variable {l : List Int} {a b : Array UInt8} {x : Int} {t : Tok}
theorem exp_figS (h1 : KBw.bInts a = l.take (clipAt l.length 1)) (hs : KBw.bInts a = KBw.bInts #[43] ∨ KBw.bInts a = KBw.bInts #[45])
    (h2 : KBw.bInts b = (l.drop (clipAt l.length 1)).take (l.length - clipAt l.length 1)) : figV (if signed l then l.drop 1 else l) = figV (KBw.bInts b) := by
  rw [take1] at h1; rw [drop1] at h2
  rw [h1] at hs
  rw [if_pos (show signed l from hs), h2]
theorem exp_figN (h1 : KBw.bInts a = l.take (clipAt l.length 1)) (hs : ¬ (KBw.bInts a = KBw.bInts #[43] ∨ KBw.bInts a = KBw.bInts #[45]))
    (h2 : KBw.bInts b = (l.drop (clipAt l.length 0)).take (l.length - clipAt l.length 0)) : figV (if signed l then l.drop 1 else l) = figV (KBw.bInts b) := by
  rw [take1] at h1; rw [drop0] at h2
  rw [h1] at hs
  rw [if_neg (show ¬ signed l from hs), h2]
theorem exp_none (hf : figV (KBw.bInts b) = none) (e : figV (if signed l then l.drop 1 else l) = figV (KBw.bInts b)) : OutOpt (expV l) .none :=
  .inl ⟨by unfold expV; rw [e, hf]; rfl, rfl⟩
theorem exp_minus (hf : figV (KBw.bInts b) = some x) (h1 : KBw.bInts a = l.take (clipAt l.length 1)) (hm : KBw.bInts a = KBw.bInts #[45]) (e : figV (if signed l then l.drop 1 else l) = figV (KBw.bInts b)) : OutOpt (expV l) (.int (-if 10 ^ Int.toNat 6 < x then 10 ^ Int.toNat 6 else x) t) :=
  .inr ⟨_, t, by
    rw [take1] at h1; rw [h1] at hm
    unfold expV; rw [e, hf, Option.map_some, if_pos (show l.take 1 = [45] from hm)]; rfl, rfl⟩
theorem exp_plus (hf : figV (KBw.bInts b) = some x) (h1 : KBw.bInts a = l.take (clipAt l.length 1)) (hm : KBw.bInts a ≠ KBw.bInts #[45]) (e : figV (if signed l then l.drop 1 else l) = figV (KBw.bInts b)) : OutOpt (expV l) (.int (if 10 ^ Int.toNat 6 < x then 10 ^ Int.toNat 6 else x) t) :=
  .inr ⟨_, t, by
    rw [take1] at h1; rw [h1] at hm
    unfold expV; rw [e, hf, Option.map_some, if_neg (show l.take 1 ≠ [45] from hm)]; rfl, rfl⟩
end
local macro_rules | `(tactic| walk_at $s:str) => `(tactic| k_extra $s)
set_option maxRecDepth 100000 in
set_option maxHeartbeats 8000000 in
theorem read_exponent_tells (w : World) (mean : ExcName → Option Value) (mg mb : Str → Option Value) (b : Array UInt8) (tb : Tok) (hb : b.size ≤ 1000) : Tell w mean mg mb 82 6 [.bytes b tb] (OutOpt (expV (KBw.bInts b))) := by
  unfold Tell
  k_fill
  intro dp un gd cn cs a ccd cl outer A₀ base h₀ L m news s Q E hB hF hK hN hT hk hd1 hu hret
  obtain ⟨l, hbI⟩ : ∃ l, KBw.bInts b = l := ⟨_, rfl⟩
  have hbl : l.length = b.size := by rw [← hbI, KBw.ints_length]
  refine wpAny_call ?_
  k_dflt cell_enter
  k_with_none
  k_with "compareOp In bytes ref" => ((k_here; k_dflt (refine' in_pair_bytes ?N ?hm ?_ ?_; (case N => k_asm); (case hm => k_mem)) <;> intro hM9))
  k_with "compareOp Eq bytes bytes" => ((k_here; (refine eq_bytes_ints ?_ ?_) <;> intro hM9))
  k_with "call ref" => (((with_reducible show wpAny _ _ (PySem.call _ [Value.bytes _ _, Value.int _ _]) _ _ _); (k_here; k_dflt (refine' Tell.use (figures_value_tells _ _ _ _ _ _ _ ?sz) ?tB ?tF ?tX ?tN ?tT ?tk ?td ?tu ?_; (case sz => first | assumption | exact Nat.le_trans (KBc.size_picked_le _ _ _) (by assumption)); (case tB => k_asm); (case tF => k_asm); (case tX => k_asm); (case tN => k_asm); (case tT => k_asm); (case tk => first | exact rfl | assumption); (case td => ktr_room); (case tu => ktr_units); k_whole); intro r9 h' tk' F' N' O9; (try k_sweep); rcases O9 with ⟨hD9, hr9⟩ | ⟨x9, t9, hD9, hr9⟩ <;> subst hr9)))
  k_steps
  all_goals (refine' hret _ _ _ ?f ?n ?o; (case f => assumption); (case n => first | assumption | exact cb_drop (by assumption) (fun p hp => List.mem_cons_of_mem _ hp)); (case o => (rw [hbI]; first
    | exact exp_none (by assumption) (exp_figS (by assumption) (by assumption) (by assumption))
    | exact exp_none (by assumption) (exp_figN (by assumption) (by assumption) (by assumption))
    | exact exp_minus (by assumption) (by assumption) (by assumption) (exp_figS (by assumption) (by assumption) (by assumption))
    | exact exp_minus (by assumption) (by assumption) (by assumption) (exp_figN (by assumption) (by assumption) (by assumption))
    | exact exp_plus (by assumption) (by assumption) (by assumption) (exp_figS (by assumption) (by assumption) (by assumption))
    | exact exp_plus (by assumption) (by assumption) (by assumption) (exp_figN (by assumption) (by assumption) (by assumption)))))
end Mine
end
section
open PySem PySem.W PySem.Calls
set_option maxRecDepth 100000
namespace Mine
abbrev psMro : List Value := [.ref 32, .type "Exception", .type "BaseException", .type "object"]
abbrev PsCls : Obj := excClassObj "PsError" "PsError" 45 44 [.ref 32] psMro true [] [] false none none (some (.ref 36)) none (some (.str (Str.ofString "PsError") 220)) (some (.str (Str.ofString "PsError") 228)) (some (.bool true)) "Exception.__new__"
theorem ps_at {w : World} {h : Heap} (X : (hd.heap_39 w.params).In h) : h.get? 45 = some PsCls := X _ _ (by rfl)
abbrev tupOf (vs : List Value) : Obj := { cls := .type "tuple", data := .seq vs.toArray }
abbrev PsNew (t : Addr) : Obj := { cls := .ref 45, data := .fields #[.ref t, .none, .none, .none, .bool false, .none] }
section
variable {M : Model} {A : Around} {E : Value → Shared → Prop} {h : Heap} {g : Array GenState} {d : Drawn} {t : Nat} {os : OsState}
theorem ps_check_new {rest : List Value} {Q : Unit → Shared → Prop} (hC : h.get? 45 = some PsCls) (hq : Q () ⟨h, g, d, t, os⟩) :
    wpAny M A (checkBuiltinCall "Exception.__new__" ⟨.ref 45 :: rest, []⟩) Q E ⟨h, g, d, t, os⟩ := by
  have F := PySem.F.excBase_Exception
  have hcont : (Value.ref 45 :: psMro).contains (.type "Exception") = true := by decide
  have hstar := F.noStar
  simp only [checkBuiltinCall, F.newKind, F.newSplit, F.newRow]
  repeat (first | refine wpAny_loadPart_at hC ?_ | (refine wpAny_isSubtype_exc hC ?_; rw [hcont]) | refine wpAny_staticBase_exc hC ?_ | refine wpAny_madeBy_exc hC ?_ | simp only [bne_self_eq_false, Bool.false_eq_true, if_false] | wp_step)
  exact hq
end
section
variable {prog : Program} {w : World} {A : Around} {R : Result → Shared → Prop} {h : Heap} {g : Array GenState} {d : Drawn} {t : Nat} {os : OsState}
theorem ps_new {rest : List Value} (hC : h.get? 45 = some PsCls) (hq : R (.ok (.ret (.ref (h.objs.size + 1)))) ⟨(h.push (tupOf rest)).push (PsNew h.objs.size), g, d, t, os⟩) (hrest : rest.length ≤ sizeLine) :
    codeAny (model prog w) A (.builtin "Exception.__new__" ⟨.ref 45 :: rest, []⟩) R ⟨h, g, d, t, os⟩ := by
  have F := PySem.F.excBase_Exception
  have hends := F.ends
  have hcB : (Value.ref 45 :: psMro).contains (.type "Exception") = true := by decide
  have hcA : (Value.ref 45 :: psMro).contains (.type "AttributeError") = false := by decide
  have hcN : (Value.ref 45 :: psMro).contains (.type "NameError") = false := by decide
  refine codeAny_builtinAt F.entry ?_
  unfold Builtin.«BaseException.__new__»
  refine wpAt_bind ?_
  show wpAt _ _ _ (stack >>= _) _ _ _
  refine wpAt_bind (wpAt_stack fun p below => wpAt_of_wpAny ?_)
  wp_walk
  refine wpAt_of_wpAny ?_
  rw [F.owner]
  repeat (first | with_reducible refine wpAny_madeHere_exc F.canon hC ?_ | with_reducible refine wpAny_loadPart_at hC ?_ | (with_reducible refine wpAny_isSubtype_exc hC ?_; first | rw [hcB] | rw [hcA] | rw [hcN]) | wp_step)
  show R _ _
  rw [Heap.size_push]
  exact hq
end
section
variable {prog : Program} {w : World} {A : Around} {E : Value → Shared → Prop} {h : Heap} {g : Array GenState} {d : Drawn} {t : Nat} {os : OsState}
theorem ps_type_call {rest : List Value} {Q : Fin → Shared → Prop} (X : (hd.heap_39 w.params).In h)
    (hq : wpAny (model prog w) A (call (.ref 29) (.ref (h.objs.size + 1) :: rest)) (fun r s' => r = .none ∧ Q (.done (.ret (.ref (h.objs.size + 1)))) s') E ⟨(h.push (tupOf rest)).push (PsNew h.objs.size), g, d, t, os⟩) (hrest : rest.length ≤ sizeLine) :
    wpAny (model prog w) A (Builtin.«type.__call__» ⟨.ref 45 :: rest, []⟩) Q E ⟨h, g, d, t, os⟩ := by
  have F := PySem.F.excBase_Exception
  have hC := ps_at X
  repeat (first | with_reducible refine wpAny_loadPart_at hC ?_ | with_reducible refine wpAny_madeBy_exc hC ?_ | wp_step)
  refine codeAny_call_builtin_code (Code.quiet_builtin _ F.quiet) (ps_check_new hC ?_)
  refine ps_new hC ?_ hrest
  show wpAny _ _ _ _ _ _
  have kp : ∀ b o, h.get? b = some o → ((h.push (tupOf rest)).push (PsNew h.objs.size)).get? b = some o := fun b o e => Heap.get?_push_of_some _ (Heap.get?_push_of_some _ e)
  have X₁ : (hd.heap_39 w.params).In ((h.push (tupOf rest)).push (PsNew h.objs.size)) := X.keeps kp
  have hC₁ := kp _ _ hC
  have hget : ((h.push (tupOf rest)).push (PsNew h.objs.size)).get? (h.objs.size + 1) = some (PsNew h.objs.size) := by heap_get
  have hcC : (Value.ref 45 :: psMro).contains (.ref 45) = true := by decide
  unfold isInstance
  repeat (first | with_reducible refine wpAny_loadPart_at hget ?_ | (with_reducible refine wpAny_isSubtype_exc hC₁ ?_; rw [hcC]) | wp_step)
  show wpAny _ _ (typeLookup (.ref 45) _) _ _ _
  refine (looks_findIn (K := hd.heap_39 w.params) X₁ (r := some (.ref 29)) ?_).here ?_
  · rfl
  refine wpAny_holding (wpAny_bind ?_)
  refine (bind_fn X₁ _ ?_).here ?_
  · rfl
  refine wpAny_bind (wpAny_mono hq (fun r s' hr => ?_) fun _ _ x => x)
  obtain ⟨rfl, hQ⟩ := hr
  wp_walk
  exact hQ
theorem ps_call {rest : List Value} {Q : Value → Shared → Prop} (X : (hd.heap_39 w.params).In h)
    (hq : wpAny (model prog w) (A.under (.builtin "type.__call__" ⟨.ref 45 :: rest, []⟩)) (call (.ref 29) (.ref (h.objs.size + 1) :: rest)) (fun r s' => r = .none ∧ Q (.ref (h.objs.size + 1)) s') E ⟨(h.push (tupOf rest)).push (PsNew h.objs.size), g, d, t, os⟩) (hrest : rest.length ≤ sizeLine) :
    wpAny (model prog w) A (call (.ref 45) rest) Q E ⟨h, g, d, t, os⟩ := by
  have f1 := tc_lookup
  have f2 := tc_bind (.ref 45)
  have hC := ps_at X
  have hT : (⟨h, g, d, t, os⟩ : Shared).TypeIs (.ref 45) "type" := ⟨_, hC, rfl⟩
  refine wpAny_call (codeAny_of_tree ?_)
  show wpAny _ _ (callAny (.ref 45) _) _ _ _
  repeat (any_goals (first | assumption | with_reducible refine wpAny_loadPart_at hC ?_ | wp_step))
  refine ⟨rfl, ?_⟩
  exact codeAny_call_builtin_at (Code.quiet_builtin _ (by decide +kernel)) entry_typeCall (wpAny_check_type_call_sub hC (ps_type_call X hq hrest))
end
end Mine
end
section
open PySem PySem.W PySem.Calls PyProof.Rows Builtin Builtin.ObjectAttr
set_option maxRecDepth 100000
set_option maxHeartbeats 1000000
namespace Mine
abbrev PsTold (t D : Addr) : Obj := { cls := .ref 45, dict := some D, data := .fields #[.ref t, .none, .none, .none, .bool false, .none] }
abbrev toldObj (P : Params) (tk : Tok) (v : Value) : Obj := { cls := .type "dict", data := .dict #[{ hash := PyData.keyHash P (Str.ofString "told"), key := .str (Str.ofString "told") tk, val := v }] 1 }
theorem ps_put (P : Params) (tk : Tok) (v : Value) : Obj.putName (Str.ofString "told") (PyData.keyHash P (Str.ofString "told")) (.str (Str.ofString "told") tk) v emptyDict = toldObj P tk v := by rfl
section
variable {prog : Program} {w : World} {A : Around} {E : Value → Shared → Prop} {s : Shared} {h₀ : Heap} {L : Addr} {m : Str → Option Value} {news : List (Addr × Obj)}
theorem ps_store {R : Result → Shared → Prop} {e t : Addr} {tk : Tok} {v : Value} (F : Fr h₀ L s.heap m) (N : News h₀ L s.heap ((e, PsNew t) :: news)) (hne : ∀ p ∈ news, p.1 ≠ e) (X : (hd.heap_39 w.params).In s.heap)
    (h : ∀ h' D tk', Fr h₀ L h' m → News h₀ L h' ((D, toldObj w.params tk' v) :: (e, PsTold t D) :: news) → R (.ok (.ret .none)) { s with heap := h', toks := s.toks + 1 }) :
    codeAny (model prog w) A (.call (.builtin "object.__setattr__") ⟨[.ref e, .str (Str.ofString "told") tk, v], []⟩) R s := by
  have SF := PySem.F.store_object
  have hx := (N (e, PsNew t) (.head _)).1
  have I : PySem.W.InstAt s.heap e (PsNew t) 45 none := ⟨hx, rfl, rfl, trivial⟩
  have hc : clsIn (hd.heap_39 w.params) 45 = some { name := "PsError", bases := [.ref 32], mro := .ref 45 :: psMro, ns := 44, qualname := "PsError" } := by rfl
  have sub : Looks (model prog w) s.heap (isInstance (.ref e) (.type "object")) true := I.type.andThen (looks_mroIn X (by rfl))
  refine codeAny_call_builtin SF.slot.plain SF.entry (@check_slot (model prog w) _ _ s "object.__setattr__" "object" "__setattr__" (.ref e) [.str (Str.ofString "told") tk, v] [] _ SF.kind SF.split sub (SF.args (.ref e) (.str (Str.ofString "told") tk) v) ?_)
  have hm : Looks (model prog w) s.heap (mroOf (.ref 45)) (.ref 45 :: psMro) := (looks_clsIn X hc).andThen .now
  have ha : Looks (model prog w) s.heap (typeLookup (.ref 45) (Str.ofString "told")) none := looks_findIn X (by rfl)
  rw [osa_eq, refuse_eq]
  refine wpAny_bind (wpAny_bind (I.type.here (wpAny_bind (hm.here ?_))))
  rw [refuseLoop_ref, refuseLoop_ref, PySem.F.store_Exception.passes]
  refine wpAny_pure (wpAny_bind (I.type.here (wpAny_bind (ha.here (wpAny_bind (wpAny_pure ?_))))))
  show wpAny _ _ (storeInOwnDict (.ref e) (.ref 45) (.str (Str.ofString "told") tk) (Str.ofString "told") v false) _ _ s
  unfold storeInOwnDict
  refine wpAny_bind (wpAny_pure (wpAny_bind ?_))
  show wpAny _ _ (instanceDict e true) _ _ s
  unfold instanceDict
  refine wpAny_bind (wpAny_loadPart hx ?_)
  dsimp only
  refine wpAny_bind ((looks_clsIn X hc).here ?_)
  have hx₁ : (s.heap.push emptyDict).get? e = some (PsNew t) := Heap.get?_push_of_some _ hx
  have Fp := F.push emptyDict
  have Np := N.push F emptyDict
  have nz : ∀ p ∈ ((e, PsNew t) :: news), p.1 ≠ s.heap.objs.size := N.apart
  obtain ⟨U1, U2⟩ := news_upd (d := e) (pre := [(s.heap.objs.size, emptyDict)]) (post := news) (o := PsNew t) (o' := PsTold t s.heap.objs.size) (f := fun o => { o with dict := some s.heap.objs.size }) Fp Np
    (fun p hp => by rw [List.mem_singleton.mp hp]; exact (nz _ (.head _)).symm) hne rfl rfl
  obtain ⟨V1, V2⟩ := news_upd (d := s.heap.objs.size) (pre := []) (post := (e, PsTold t s.heap.objs.size) :: news) (o := emptyDict) (o' := toldObj w.params s.toks v)
    (f := Obj.putName (Str.ofString "told") (PyData.keyHash w.params (Str.ofString "told")) (.str (Str.ofString "told") s.toks) v) U1 U2 (fun p hp => nomatch hp)
    (fun p hp => by
      rcases List.mem_cons.mp hp with rfl | hp
      · exact nz (e, PsNew t) (.head _)
      · exact nz _ (.tail _ hp)) (ps_put _ _ _) rfl
  refine wpAny_bind (wpAny_alloc ?_)
  refine wpAny_bind (wpAny_update hx₁ ?_)
  refine wpAny_pure ?_
  show wpAny _ _ (storeInDict s.heap.objs.size (.str (Str.ofString "told") tk) (Str.ofString "told") v) _ _ _
  unfold storeInDict newKeyGuard nsSet
  refine wpAny_bind (wpAny_pure (wpAny_bind (wpAny_bind (wpAny_bind (wpAny_askSetting (wpAny_pure (wpAny_bind (wpAny_mkText (wpAny_bind (wpAny_loadPart (U2 _ (.head _)).1 ?_))))))))))
  dsimp only
  have c : aRefKeyMayBeTheName (Str.ofString "told") #[] = false := by rw [aRefKeyMayBeTheName_at]; simp
  rw [c]
  refine wpAny_updatePart (U2 _ (.head _)).1 (wpAny_bind (wpAny_lookBehind (V2 _ (.head _)).1 (pastItsLine_dict (by rw [List.size_toArray, sizeLine_eq]; show 1 ≤ _; omega)) ?_))
  exact wpAny_pure (h _ _ _ V1 V2)
theorem ps_set {e t : Addr} {v : Value} {Q : Unit → Shared → Prop} (F : Fr h₀ L s.heap m) (N : News h₀ L s.heap ((e, PsNew t) :: news)) (hne : ∀ p ∈ news, p.1 ≠ e) (X : (hd.heap_39 w.params).In s.heap)
    (h : ∀ h' D tk', Fr h₀ L h' m → News h₀ L h' ((D, toldObj w.params tk' v) :: (e, PsTold t D) :: news) → Q () { s with heap := h', toks := s.toks + 1 + 1 }) :
    wpAny (model prog w) A (setAttr (.ref e) (Str.ofString "told") v) Q E s := by
  have hx := (N (e, PsNew t) (.head _)).1
  have I : PySem.W.InstAt s.heap e (PsNew t) 45 none := ⟨hx, rfl, rfl, trivial⟩
  exact set_plain X I (by rfl) (ps_store (s := { s with toks := s.toks + 1 }) F N hne X h)
end
end Mine
end
section
open PySem PySem.W PyProof.Rows PySem.Calls
namespace Mine
local macro_rules | `(tactic| walk_at "no key 0") => `(tactic| skip)
theorem under_make (dp un : Nat) (gd : Option (List Code)) (cn : Str) (cs : Scope) (a : Addr) (ccd : Value) (cl : List (Str × Addr)) (outer : List Env) (L C : Addr) (vs : List Value) :
    (ktrTop dp un gd cn cs L a ccd cl outer).under (.builtin "type.__call__" ⟨.ref C :: vs, []⟩) = ktrTop (dp + 1) (un + 1) gd cn cs L a ccd cl outer := by rfl
theorem cons_ne {news : List (Addr × Obj)} {e t : Addr} {o : Obj} (h : ∀ p ∈ news, p.1 < t) (ht : t < e) : ∀ p ∈ (t, o) :: news, p.1 ≠ e := fun p hp => by
  rcases List.mem_cons.mp hp with rfl | hp
  · exact Nat.ne_of_lt ht
  · exact Nat.ne_of_lt (Nat.lt_trans (h p hp) ht)
local macro_rules | `(tactic| walk_at $s:str) => `(tactic| k_extra $s)
set_option maxRecDepth 100000 in
set_option maxHeartbeats 8000000 in
theorem ps_init {w : World} {mean : ExcName → Option Value} {mg mb : Str → Option Value} {e t : Addr} {vs : List Value} {v : Value}
    {dp un : Nat} {gd : Option (List Code)} {cn : Str} {cs : Scope} {a : Addr} {ccd : Value} {cl : List (Str × Addr)} {outer : List Env} {A₀ : Around} {base h₀ : Heap} {L : Addr} {m : Str → Option Value} {news : List (Addr × Obj)} {s : Shared} {Q E : Value → Shared → Prop}
    (B : Below A₀ base outer h₀) (F : Fr h₀ L s.heap m) (X : (hd.heap_39 w.params).In h₀) (N : News h₀ L s.heap ((e, PsNew t) :: (t, tupOf vs) :: news)) (hl : ∀ p ∈ news, p.1 < t) (hte : t < e) (Tp : TopM mean mg mb h₀) (hk : cs.kind = .function) (hd1 : dp + 5 < recursionLimit) (hu : un + 8 * 5 < cLine)
    (ret : ∀ D h' tk' tk'', Fr h₀ L h' m → News h₀ L h' ((D, toldObj w.params tk'' v) :: (e, PsTold t D) :: (t, tupOf vs) :: news) → Q .none { s with heap := h', toks := tk' }) :
    wpAny (model PySem.Challenge.rw_on0257_01.row.prog w) (ktrTop dp un gd cn cs L a ccd cl outer) (call (.ref 29) [.ref e, v]) Q E s := by
  have ne9 := cons_ne (o := tupOf vs) hl hte
  revert X
  k_fill
  intro X
  refine wpAny_call ?_
  k_dflt (refine' code_def ?k1 ?k2 ?k3 ?k4 ?k5 ?kA ?kF ?kK ?k6 ?k7 ?k8 ?k9 ?kB ?_ ?c2 ?c3 ?c4 ?c5; (case kA => exact rfl); (case kF => exact rfl); (case kK => assumption); (case k1 => k_asm); (case k2 => k_asm); (case k3 => k_asm); (case k4 => k_asm); (case k5 => k_asm); (case k6 => k_is); (case k7 => k_is); (case k8 => ktr_room); (case k9 => exact binds_K (by k_in) rfl (by k_is) rfl rfl rfl); (case c5 => decide); (case kB => exact locs rfl); (case c2 => exact rfl); (case c3 => exact rfl); (case c4 => exact rfl); k_whole; intro g' L' h' FG' F' N' B' X' T'; (try dsimp only); (try k_lift B'); (try k_fold))
  k_with_none
  k_with "setAttr ref" => ((k_here; k_dflt (refine' ps_set ?F ?N ?ne ?X ?_; (case F => k_asm); (case N => k_asm); (case ne => assumption); (case X => exact Frag.In.keeps (by k_asm) (Fr.keep (by k_asm))); k_whole); intro h' D' tk' F' N'))
  k_steps
  exact ret _ _ _ _ (by assumption) (by assumption)
end Mine
end
section
open PySem PySem.W PySem.Calls PyProof.Rows
set_option maxRecDepth 100000
namespace Mine
/-- the exception e flies: all that B holds stays, the frames below stand, e keeps its class and its dict D -/
def FlyD (B : Heap) (l : List Env) (e D : Addr) (fl : Value) (h : Heap) : Prop :=
  B.StaysIn h ∧ B.get? e = none ∧ h.FunFrames B l ∧ ∃ oe vs T oT ts, h.get? e = some oe ∧ oe.cls = .ref 45 ∧ oe.dict = some D ∧ oe.data = .fields vs ∧ vs[1]? = some (.ref T) ∧ B.get? T = none ∧ T ≠ e ∧ h.get? T = some oT ∧ oT.data = .fields ts ∧ ts[3]? = some fl
theorem apart_of_fields {h : Heap} {e b : Addr} {oe o : Obj} {vs : Array Value} (he : h.get? e = some oe) (hd : oe.data = .fields vs) (hb : h.get? b = some o) (hn : ∀ vs, o.data ≠ .fields vs) : b ≠ e := fun q => by
  rw [q, he] at hb; cases hb; exact hn vs hd
theorem apart_of_base {B : Heap} {e b : Addr} {o : Obj} (he : B.get? e = none) (hb : B.get? b = some o) : b ≠ e := fun q => by
  rw [q, he] at hb; cases hb
theorem dict_mapFields (o : Obj) (f : Array Value → Array Value) : (Obj.mapFields f o).dict = o.dict := by
  obtain ⟨c, d, dt, sl⟩ := o; cases dt <;> rfl
section
variable {M : Model} {A : Around} {E : Value → Shared → Prop} {s : Shared} {B : Heap} {l outer : List Env} {env : Env} {e D L : Addr} {oe : Obj} {vs : Array Value} {fl head : Value} {hadNext : Bool} {Q : Unit → Shared → Prop}
theorem flyD_entry (hfr : A.frames = some (env :: outer)) (hf : env.frame = some L) (hB : B.StaysIn s.heap) (hBe : B.get? e = none) (hl : s.heap.FunFrames B (env :: outer))
    (he : s.heap.get? e = some oe) (hc : oe.cls = .ref 45) (hD : oe.dict = some D) (hd : oe.data = .fields vs) (hsz : 1 < vs.size)
    (h : ∀ h', FlyD B (env :: outer) e D (rawInt L) h' → s.heap.UpToSlots h' → Q () { s with heap := h' }) :
    wpAny M A (do let a ← frameOf env; let pl ← entryPlaceOf L hadNext; let b ← EntryCells.newEntry head a .none (rawInt L) .none pl; setField (.ref e) 1 b) Q E s := by
  have hene : e ∉ (env :: outer).filterMap (·.frame) := fun hm => by
    obtain ⟨_, o, ho, hn⟩ := hl.mem hm
    exact apart_of_fields he hd ho hn rfl
  refine wpAny_bind (wpAny_frameOf_fun hfr hl hf fun h₁ hs₁ => ?_)
  refine wpAny_bind (wpAny_entryPlaceOf fun pl hpl => ?_)
  unfold EntryCells.newEntry newFields
  refine wpAny_bind (wpAny_newObj_type ?_ (hpl.sizeOk5 _ _ _ _ _))
  have he₁ : h₁.get? e = some oe := (hs₁.2.1 e hene).trans he
  have hB₁ : B.StaysIn h₁ := fun b o q => (hs₁.2.1 b fun hm => by rw [(hl.mem hm).1] at q; cases q).trans (hB b o q)
  have he₂ := Heap.get?_push_of_some (h := h₁) { cls := .type "traceback", dict := none, data := .fields ([head, .ref L, .none, rawInt L, .none] ++ (if pl.isEmpty then List.replicate 6 Value.none else pl)).toArray } he₁
  have hT : h₁.objs.size ≠ e := Nat.ne_of_gt (Heap.lt_size he₁)
  have hd₃ := Obj.data_mapFields hd (·.setIfInBounds 1 (Value.ref h₁.objs.size))
  have keep : ∀ b o, b ≠ e → h₁.get? b = some o → ((h₁.push { cls := .type "traceback", dict := none, data := .fields ([head, .ref L, .none, rawInt L, .none] ++ (if pl.isEmpty then List.replicate 6 Value.none else pl)).toArray }).update e
      (Obj.mapFields (·.setIfInBounds 1 (Value.ref h₁.objs.size)))).get? b = some o := fun b o hbe hb => by
    rw [Heap.get?_update_other _ _ (Ne.symm hbe)]; exact Heap.get?_push_of_some _ hb
  refine wpAny_setField he₂ hd hsz (h _ ⟨fun b o q => keep b o (apart_of_base hBe q) (hB₁ b o q), hBe, hl.of_keeps fun b o hb hn => ?_, _, _, h₁.objs.size, _, _,
    Heap.get?_update_self _ he₂ (Obj.isFreed_of_fields hd₃), (Obj.cls_mapFields _ _).trans hc, (dict_mapFields _ _).trans hD, hd₃, by simp [hsz], hB₁.fresh, hT,
    (Heap.get?_update_other _ _ (Ne.symm hT)).trans (Heap.get?_push_size h₁ rfl), rfl, by simp⟩ fun b o hb hn => ?_)
  · obtain ⟨sl, hs⟩ := hs₁.2.2 b o hb
    exact ⟨_, keep b _ (apart_of_fields he hd hb hn) hs, rfl⟩
  · obtain ⟨sl, hs⟩ := hs₁.2.2 b o hb
    exact ⟨sl, keep b _ (apart_of_fields he hd hb hn) hs⟩
/-- the traceback's third field changes, nothing else does -/
theorem flyD_mark {T : Addr} {oT : Obj} {ts : Array Value} {fl' : Value} (hf : FlyD B l e D fl s.heap) (hv : ∃ oe vs, s.heap.get? e = some oe ∧ oe.data = .fields vs ∧ vs[1]? = some (.ref T))
    (hT : s.heap.get? T = some oT) (hdT : oT.data = .fields ts) :
    FlyD B l e D fl' (s.heap.update T (Obj.mapFields (·.setIfInBounds 3 fl'))) ∧ s.heap.UpToSlots (s.heap.update T (Obj.mapFields (·.setIfInBounds 3 fl'))) := by
  obtain ⟨f1, f2, f3, oe, vs, T', oT', ts', he, hc, hD, hd, h1, hnT, hTe, hT', hdT', h3⟩ := hf
  obtain ⟨oe', vs', he', hd', h1'⟩ := hv
  rw [he] at he'; cases he'
  rw [hd] at hd'; cases hd'
  rw [h1] at h1'; cases h1'
  rw [hT] at hT'; cases hT'
  rw [hdT] at hdT'; cases hdT'
  have other : ∀ b, b ≠ T → (s.heap.update T (Obj.mapFields (·.setIfInBounds 3 fl'))).get? b = s.heap.get? b := fun b hb => Heap.get?_update_other _ _ (Ne.symm hb)
  have hsz := (Array.getElem?_eq_some_iff.mp h3).1
  have hd₃ := Obj.data_mapFields hdT (·.setIfInBounds 3 fl')
  exact ⟨⟨fun b o q => (other b (apart_of_base hnT q)).trans (f1 b o q), f2, f3.of_keeps fun b o hb hn => ⟨o, (other b (apart_of_fields hT hdT hb hn)).trans hb, rfl⟩,
    oe, vs, T, _, _, (other e (Ne.symm hTe)).trans he, hc, hD, hd, h1, hnT, hTe, Heap.get?_update_self _ hT (Obj.isFreed_of_fields hd₃), hd₃, by simp [hsz]⟩,
    fun b o hb hn => ⟨o.slots, (other b (apart_of_fields hT hdT hb hn)).trans hb⟩⟩
theorem flyD_lands (hf : FlyD B l e D fl s.heap) (h : ∀ h', FlyD B l e D .none h' → s.heap.UpToSlots h' → Q () { s with heap := h' }) : wpAny M A (setFlight (.ref e) none) Q E s := by
  obtain ⟨f1, f2, f3, oe, vs, T, oT, ts, he, hc, hD, hd, h1, hnT, hTe, hT, hdT, h3⟩ := id hf
  unfold setFlight
  refine wpAny_bind (wpAny_field he hd h1 ?_)
  rw [if_pos (show (Value.ref T != Value.none) = true from by simp)]
  obtain ⟨a, b⟩ := flyD_mark (fl' := .none) hf ⟨oe, vs, he, hd, h1⟩ hT hdT
  exact wpAny_setField hT hdT (Array.getElem?_eq_some_iff.mp h3).1 (h _ a b)
theorem flyD_notes (hfr : A.frames = some (env :: outer)) (hf : env.frame = some L) (hfl : FlyD B (env :: outer) e D .none s.heap)
    (h : ∀ h', FlyD B (env :: outer) e D (rawInt L) h' → s.heap.UpToSlots h' → Q () { s with heap := h' }) : wpAny M A (noteFrame (.ref e) env) Q E s := by
  obtain ⟨f1, f2, f3, oe, vs, T, oT, ts, he, hc, hD, hd, h1, hnT, hTe, hT, hdT, h3⟩ := id hfl
  unfold noteFrame
  simp only [hf]
  refine wpAny_bind (wpAny_field he hd h1 ?_)
  rw [if_pos (show (Value.ref T != Value.none) = true from by simp)]
  refine wpAny_bind (wpAny_field hT hdT h3 ?_)
  rw [if_neg (show ¬ ((Value.none == rawInt L) = true) from by simp [rawInt])]
  obtain ⟨a, b⟩ := flyD_mark (fl' := .none) hfl ⟨oe, vs, he, hd, h1⟩ hT hdT
  refine wpAny_bind (wpAny_setField hT hdT (Array.getElem?_eq_some_iff.mp h3).1 ?_)
  have he' := (Heap.get?_update_other s.heap (Obj.mapFields (·.setIfInBounds 3 Value.none)) hTe).trans he
  exact flyD_entry (s := { s with heap := s.heap.update T (Obj.mapFields (·.setIfInBounds 3 Value.none)) }) hfr hf a.1 a.2.1 a.2.2.1 he' hc hD hd (Array.getElem?_eq_some_iff.mp h1).1 fun h' x y => h h' x (b.trans y)
theorem flyD_again (hf : env.frame = some L) (hfl : FlyD B l e D (rawInt L) s.heap) (h : Q () s) : wpAny M A (noteFrame (.ref e) env) Q E s := by
  obtain ⟨f1, f2, f3, oe, vs, T, oT, ts, he, hc, hD, hd, h1, hnT, hTe, hT, hdT, h3⟩ := hfl
  unfold noteFrame
  simp only [hf]
  refine wpAny_bind (wpAny_field he hd h1 ?_)
  rw [if_pos (show (Value.ref T != Value.none) = true from by simp)]
  refine wpAny_bind (wpAny_field hT hdT h3 ?_)
  rw [if_pos (show (rawInt L == rawInt L) = true from by simp)]
  exact wpAny_pure h
theorem flyD_pops {fl : Value} {h : Heap} (x : FlyD B (env :: outer) e D fl h) : FlyD B outer e D fl h := by
  obtain ⟨f1, f2, ⟨_, _, f3⟩, f4⟩ := x
  exact ⟨f1, f2, f3, f4⟩
theorem flyD_leaves (hfr : A.frames = some (env :: outer)) (hf : env.frame = some L) (hfl : FlyD B (env :: outer) e D .none s.heap)
    (h : ∀ h', FlyD B outer e D .none h' → s.heap.UpToSlots h' → Q () { s with heap := h' }) : wpAny M A (leaving env (.ref e)) Q E s := by
  unfold leaving
  refine wpAny_bind (flyD_notes hfr hf hfl fun h₁ x₁ y₁ => ?_)
  exact flyD_lands (s := { s with heap := h₁ }) x₁ fun h' x y => h h' (flyD_pops x) (y₁.trans y)
theorem flyD_first (hfr : A.frames = some (env :: outer)) (hf : env.frame = some L) (hB : B.StaysIn s.heap) (hBe : B.get? e = none) (hl : s.heap.FunFrames B (env :: outer))
    (he : s.heap.get? e = some oe) (hc : oe.cls = .ref 45) (hD : oe.dict = some D) (hd : oe.data = .fields vs) (h1 : vs[1]? = some .none)
    (h : ∀ h', FlyD B outer e D .none h' → s.heap.UpToSlots h' → Q () { s with heap := h' }) : wpAny M A (leaving env (.ref e)) Q E s := by
  unfold leaving noteFrame
  simp only [hf]
  refine wpAny_bind (wpAny_bind (wpAny_field he hd h1 ?_))
  rw [if_neg (by decide)]
  refine flyD_entry hfr hf hB hBe hl he hc hD hd (Array.getElem?_eq_some_iff.mp h1).1 fun h₁ x₁ y₁ => ?_
  exact flyD_lands (s := { s with heap := h₁ }) x₁ fun h' x y => h h' (flyD_pops x) (y₁.trans y)
end
end Mine
end
section
open PySem PySem.W PySem.Calls PyProof.Rows
set_option maxRecDepth 100000
namespace Mine
/-- the exception e, whose dict is D, has left the frames above l; what G held stays, the frames of l apart -/
def RaisedP (base G : Heap) (l : List Env) (e D : Addr) (news : List (Addr × Obj)) (h : Heap) : Prop :=
  ∃ B, base.StaysIn B ∧ (∀ b o, G.get? b = some o → b ∉ l.filterMap (·.frame) → B.get? b = some o) ∧ (∀ q ∈ news, B.get? q.1 = some q.2 ∧ G.get? q.1 = none ∧ base.get? q.1 = none) ∧ FlyD B l e D .none h
section
variable {M : Model} {A : Around} {E : Value → Shared → Prop} {s' : Shared} {base g G h : Heap} {outer : List Env} {L a e D t : Addr} {m : Str → Option Value} {name : Str} {scope : Scope} {cd : Value} {Q : Unit → Shared → Prop} {news : List (Addr × Obj)} {oD : Obj}
theorem leave_firstP (K : Below A base outer g) (F : Fr g L s'.heap m) (N : News g L s'.heap ((D, oD) :: (e, PsTold t D) :: news)) (hoD : ∀ vs, oD.data ≠ .fields vs) (hne : ∀ p ∈ news, p.1 ≠ e)
    (hQ : ∀ h', RaisedP base g outer e D ((D, oD) :: news) h' → g.UpToSlots h' → Q () { s' with heap := h' }) (hk : scope.kind = .function := by rfl) :
    wpAny M (A.deeper (envOf name scope L a cd)) (leaving (envOf name scope L a cd) (.ref e)) Q E s' := by
  have K' := K.push (name := name) (a := a) (cd := cd) F hk
  have he := N (e, PsTold t D) (.tail _ (.head _))
  have hin : ∀ env ∈ (envOf name scope L a cd :: outer), ∀ b, env.frame = some b → b ∈ e :: (envOf name scope L a cd :: outer).filterMap (·.frame) := fun env h b hb => .tail _ (List.mem_filterMap.mpr ⟨env, h, hb⟩)
  have heb : base.get? e = none := fresh_of_stays K.stays he.2.2
  have st : base.StaysIn (hideAll s'.heap (e :: (envOf name scope L a cd :: outer).filterMap (·.frame))) := fun b o q => hideAll_get _ (K'.stays b o q) fun hm => by
    rcases List.mem_cons.mp hm with z | hm
    · exact apart_of_base heb q z
    · rw [(K'.frames.mem hm).1] at q; cases q
  have sg : ∀ b o, g.get? b = some o → b ∉ outer.filterMap (·.frame) → (hideAll s'.heap (e :: (envOf name scope L a cd :: outer).filterMap (·.frame))).get? b = some o := fun b o q nm => hideAll_get _ (F.keep b o q) fun hm => by
    rcases List.mem_cons.mp hm with z | hm
    · exact apart_of_base he.2.2 q z
    · rcases kts_mem hm with z | z
      · rw [z, kts_self F] at q; cases q
      · exact nm z
  have hl : ∀ q ∈ (D, oD) :: news, (hideAll s'.heap (e :: (envOf name scope L a cd :: outer).filterMap (·.frame))).get? q.1 = some q.2 ∧ g.get? q.1 = none ∧ base.get? q.1 = none := fun q hq => by
    have hN : s'.heap.get? q.1 = some q.2 ∧ q.1 ≠ L ∧ g.get? q.1 = none := by
      rcases List.mem_cons.mp hq with rfl | hq
      · exact N _ (.head _)
      · exact N _ (.tail _ (.tail _ hq))
    have hqe : q.1 ≠ e := by
      rcases List.mem_cons.mp hq with rfl | hq
      · exact apart_of_fields he.1 rfl hN.1 hoD
      · exact hne q hq
    refine ⟨hideAll_get _ hN.1 fun hm => ?_, hN.2.2, fresh_of_stays K.stays hN.2.2⟩
    rcases List.mem_cons.mp hm with z | hm
    · exact hqe z
    · rcases kts_mem hm with z | z
      · exact hN.2.1 z
      · obtain ⟨_, o, ho, _⟩ := K.frames.mem z
        rw [hN.2.2] at ho; cases ho
  exact flyD_first K'.stack rfl (fun b o q => of_hideAll _ q) (hideAll_none _ (.head _)) (funFrames_hide K'.frames hin) he.1 rfl rfl rfl rfl fun h' x y =>
    hQ h' ⟨_, st, sg, hl, x⟩ ((Heap.UpToSlots.of_keeps F.keep).trans y)
theorem leave_onP (K : Below A base outer g) (F : Fr g L G m) (R : RaisedP base G (envOf name scope L a cd :: outer) e D news s'.heap) (hsm : G.UpToSlots s'.heap)
    (hQ : ∀ h', RaisedP base g outer e D news h' → g.UpToSlots h' → Q () { s' with heap := h' }) :
    wpAny M (A.deeper (envOf name scope L a cd)) (leaving (envOf name scope L a cd) (.ref e)) Q E s' := by
  obtain ⟨B, hB, hBG, hl, hfl⟩ := R
  exact flyD_leaves (Around.frames_deeper K.stack) rfl hfl fun h' x y => hQ h' ⟨B, hB, fun b o q nm => hBG b o (F.keep b o q) (fun hm => by
      rcases kts_mem hm with z | z
      · rw [z, kts_self F] at q; cases q
      · exact nm z), fun q hq => ⟨(hl q hq).1, kts_none F.keep (hl q hq).2.1, (hl q hq).2.2⟩, x⟩ ((Heap.UpToSlots.of_keeps F.keep).trans (hsm.trans y))
end
section
variable {prog : Program} {w : World} {A₀ : Around} {E : Value → Shared → Prop} {s' : Shared} {base g G : Heap} {outer : List Env} {L a e D : Addr} {m : Str → Option Value} {name : Str} {scope : Scope} {cd : Value}
  {n : Str} {b₀ : Stmt} {suite : List Stmt} {pos : Pos} {rest : List ExceptHandler} {Q : Flow → Shared → Prop} {news : List (Addr × Obj)} {KF : Frag} {tt : Expr} {p : Program} {loose : List Str} {mean : ExcName → Option Value} {mg mb : Str → Option Value}
theorem flyD_ty {M : Model} {B h : Heap} {l : List Env} {fl : Value} (x : FlyD B l e D fl h) : Looks M h (typeOf (.ref e)) (.ref 45) := by
  obtain ⟨_, _, _, oe, _, _, _, _, he, hc, _⟩ := x
  exact hc ▸ (Looks.ld he).andThen .now
theorem flyD_keeps {B h h' : Heap} {l : List Env} {fl : Value} (x : FlyD B l e D fl h) (k : ∀ b o, h.get? b = some o → h'.get? b = some o) : FlyD B l e D fl h' := by
  obtain ⟨f1, f2, f3, oe, vs, T, oT, ts, he, hc, hD, hd, h1, hnT, hTe, hT, hdT, h3⟩ := x
  exact ⟨fun b o q => k _ _ (f1 b o q), f2, f3.of_keeps fun b o hb _ => ⟨o, k _ _ hb, rfl⟩, oe, vs, T, oT, ts, k _ _ he, hc, hD, hd, h1, hnT, hTe, k _ _ hT, hdT, h3⟩
theorem caught_P (K : Below A₀ base outer g) (F : Fr g L G m) (R : RaisedP base G (envOf name scope L a cd :: outer) e D news s'.heap) (hsm : G.UpToSlots s'.heap) (XB : KF.In base) (TB : Top p loose mean mg mb base)
    (Dd : KtsDicts (outer.filterMap (·.frame)) g) (T : KtsTest prog w KF p loose mg mb name scope L a cd (.ref 45) tt true)
    (k : ∀ h' g' oe ws tk, KtsTurn (outer.filterMap (·.frame)) g g' → Fr g' L h' (fun y => if y = n then some (.ref e) else m y) → News g' L h' ((e, oe) :: news) → oe.cls = .ref 45 → oe.dict = some D → oe.data = .fields ws →
      Below A₀ base outer g' → KF.In g' → Top p loose mean mg mb g' → KtsDicts (outer.filterMap (·.frame)) g' →
      wpAny (model prog w) ((A₀.deeper (envOf name scope L a cd)).mark (some (.ref e))) (execs (b₀ :: suite) (envOf name scope L a cd))
        (fun f s₄ => wpAny (model prog w) (A₀.deeper (envOf name scope L a cd)) (do bindName (envOf name scope L a cd) n .none; unbindBehindTheSuite (envOf name scope L a cd) n pos) (fun _ s₅ => Q f s₅) E s₄)
        (AsSuiteRaised (model prog w) ((A₀.deeper (envOf name scope L a cd)).mark (some (.ref e))) (envOf name scope L a cd) n pos (notedBy (model prog w) ((A₀.deeper (envOf name scope L a cd)).mark (some (.ref e))) (envOf name scope L a cd) (cameBackBy (model prog w) (A₀.deeper (envOf name scope L a cd)) (envOf name scope L a cd) E)))
        { s' with heap := h', toks := tk })
    (hk : scope.kind = .function := by rfl) (hlo : (envOf name scope L a cd).kindOf n = some .local := by rfl) :
    wpAny (model prog w) (A₀.deeper (envOf name scope L a cd)) (noteFrame (.ref e) (envOf name scope L a cd))
      (fun _ s₂ => wpAny (model prog w) (A₀.deeper (envOf name scope L a cd)) (setFlight (.ref e) none) (fun _ s₃ =>
        wpAny (model prog w) (A₀.deeper (envOf name scope L a cd)) (handleBy (.ref e) (envOf name scope L a cd) (.ExceptHandler (some tt) (some n) (b₀ :: suite) pos :: rest)) Q E s₃) E s₂) E s' := by
  obtain ⟨B, hB, hBG, hl, hfl⟩ := R
  have hL : B.get? L = none := by
    obtain ⟨_, ⟨L', _, hf, hn', _⟩, _⟩ := hfl.2.2.1
    obtain rfl : L = L' := Option.some.inj hf
    exact hn'
  refine flyD_notes (Around.frames_deeper K.stack) rfl hfl fun h₁ x₁ y₁ => ?_
  refine flyD_lands (s := { s' with heap := h₁ }) x₁ fun h₂ x₂ y₂ => ?_
  have sm₂ := hsm.trans (y₁.trans y₂)
  obtain ⟨g₂, T₂, F₂, K₂⟩ := kts_ground K F hBG x₂.1 sm₂
  refine wpAny_handleBy_cons (codeAny_handlers_test (T _ _ _ { s' with heap := h₂ } g₂ e m F₂ (XB.keeps K₂.stays) (topRead_of (TB.keeps K₂.stays)) (flyD_ty x₂) fun h₃ kp => ?_)) (by intro q; cases q)
  have sm₃ := sm₂.trans (Heap.UpToSlots.of_keeps kp)
  have x₃ := flyD_keeps x₂ kp
  refine codeAny_handlers_suite_as ?_
  refine flyD_lands (s := { s' with heap := h₃ }) x₃ fun h₄ x₄ y₄ => ?_
  have sm₄ := sm₃.trans y₄
  obtain ⟨g₄, T₄, F₄, K₄⟩ := kts_ground K F hBG x₄.1 sm₄
  obtain ⟨oe, ws, _, _, _, hoe, hoec, hoeD, hoed, _⟩ := x₄.2.2.2
  have ne₄ : g₄.get? e = none := T₄.none_ _ (kts_fresh F hBG x₄.2.1 fun o ho m => by
    obtain ⟨_, o', ho', hd⟩ := K.frames.mem m
    rw [ho] at ho'
    cases ho'
    obtain ⟨sl, hs⟩ := sm₄ _ _ (F.keep _ _ ho) hd
    rw [hoe] at hs
    cases hs
    exact hd _ hoed)
  have Nl : News g₄ L h₄ news := fun q hq => ⟨x₄.1 _ _ (hl q hq).1, (fun z => by have := (hl q hq).1; rw [z, hL] at this; cases this), T₄.none_ _ (kts_none F.keep (hl q hq).2.1)⟩
  have N₄ := News.more F₄ Nl hoe (fun es n q => by rw [hoed] at q; cases q) ne₄
  refine stN F₄ N₄ (fun h₇ F₇ N₇ => ?_) hk hlo
  exact k h₇ g₄ oe ws _ T₄ F₇ N₇ hoec hoeD hoed K₄ (XB.keeps K₄.stays) (TB.keeps K₄.stays) (Dd.turn T₄)
end
end Mine
end
section
open PySem PySem.W PySem.Calls PyProof.Rows
set_option maxRecDepth 100000
namespace Mine
abbrev limB : List UInt8 := [108, 105, 109, 105, 116, 99, 104, 101, 99, 107]
section
variable {prog : Program} {w : World} {A : Around} {E : Value → Shared → Prop} {env : Env}
theorem ps_stmt {s : Shared} {x : Sem Value} {Q : Flow → Shared → Prop} (hh : A.handled = none)
    (h : wpAny (model prog w) A x (fun v s₁ => ∃ e t D, v = .ref e ∧ (hd.heap_39 w.params).In s₁.heap ∧ s₁.heap.get? e = some (PsTold t D) ∧ E (.ref e) s₁) E s) :
    wpAny (model prog w) A (raiseStmt env (some x) none) Q E s := by
  have hcB : (Value.ref 45 :: psMro).contains (.type "BaseException") = true := by decide
  unfold raiseStmt
  refine wpAny_bind (wpAny_mono h (fun v s₁ h₁ => ?_) fun _ _ x => x)
  obtain ⟨e, t, D, rfl, X, he, hE⟩ := h₁
  obtain ⟨hp, g, d, tk, os⟩ := s₁
  have hC := ps_at X
  repeat (first | with_reducible refine wpAny_loadPart_at he ?_ | with_reducible refine wpAny_loadPart_at hC ?_ | (with_reducible refine wpAny_isSubtype_exc hC ?_; rw [hcB]) | wp_step)
  exact wpAny_raiseNew_none hh hE
end
theorem ps_raise {w : World} {mean : ExcName → Option Value} {mg mb : Str → Option Value}
    {dp un : Nat} {gd : Option (List Code)} {cn : Str} {cs : Scope} {a : Addr} {ccd : Value} {outer : List Env} {A₀ : Around} {base h₀ : Heap} {L : Addr} {m : Str → Option Value} {news : List (Addr × Obj)} {s : Shared} {Q : Flow → Shared → Prop} {E : Value → Shared → Prop} {np p0 cpos pos : Pos} {k0 : Nat}
    (B : Below A₀ base outer h₀) (F : Fr h₀ L s.heap m) (X : (hd.heap_39 w.params).In h₀) (N : News h₀ L s.heap news) (Tp : TopM mean mg mb h₀) (hk : cs.kind = .function) (hd1 : dp + 6 < recursionLimit) (hu : un + 8 * 6 < cLine)
    (hx : (envOf cn cs L a ccd).kindOf "PsError" = some .globalImplicit)
    (ret : ∀ e t D h' tk' tk'' tb, Fr h₀ L h' m → News h₀ L h' ((D, toldObj w.params tk'' (.bytes limB.toArray tb)) :: (e, PsTold t D) :: news) → (∀ p ∈ news, p.1 < e) → E (.ref e) { s with heap := h', toks := tk' }) :
    wpAny (model PySem.Challenge.rw_on0257_01.row.prog w) (ktrTop dp un gd cn cs L a ccd [] outer) (exec (.Raise (some (.Call (.Name "PsError" np) [.Constant (.bytes limB) k0 p0] [] cpos)) none pos) (envOf cn cs L a ccd)) Q E s := by
  rw [arm_exec_Raise]
  refine wpAny_bind (wpAny_standAt (ps_stmt rfl ?_))
  refine wpAny_bind (wpAny_mono (wpAny_Call_ofName (name_K F X (topRead_of Tp) (v := .ref 45) (by rfl) ?_ hk hx (by decide))) (fun v s₃ h₃ => wpAny_bind (wpAny_standAt (wpAny_pure h₃))) fun _ _ x => x)
  unfold callWith
  have he : starEach [Expr.Constant (.bytes limB) k0 p0] (envOf cn cs L a ccd) = [(false, eval (Expr.Constant (.bytes limB) k0 p0) (envOf cn cs L a ccd))] := by rfl
  rw [he]
  refine wpAny_bind (wpAny_holding (Calls.evalArgs_plain (Calls.spliced_cons ?_)))
  rw [arm_eval_Constant]
  refine wpAny_mkTextBytes (Calls.spliced_nil (wpAny_bind (wpAny_standAt ?_)))
  obtain ⟨hp, g, d, tk, os⟩ := s
  have Xh : (hd.heap_39 w.params).In hp := X.keeps F.keep
  have hC := ps_at Xh
  have nl : ∀ p ∈ news, p.1 < hp.objs.size := fun p hp => Heap.lt_size (N p hp).1
  refine wpAny_bind (wpAny_keeperOf_exc hC ?_)
  refine wpAny_bind (ps_call Xh ?_ (by rw [sizeLine_eq]; show 1 ≤ _; omega))
  rw [under_make]
  have N₁ := (N.push F (tupOf [.bytes limB.toArray tk])).push (F.push _) (PsNew hp.objs.size)
  rw [Heap.size_push] at N₁
  refine ps_init B ((F.push _).push _) X N₁ nl (Nat.lt_succ_self _) Tp hk (by omega) (by omega) fun D h' tk' tk'' F' N' => ⟨rfl, ?_⟩
  refine wpAny_bind (wpAny_holding (wpAny_point (wpAny_pure ?_)))
  exact ⟨_, _, D, rfl, X.keeps F'.keep, (N' _ (.tail _ (.head _))).1, ret _ _ _ _ _ _ _ F' (fun p hp => N' p (by
    rcases List.mem_cons.mp hp with rfl | hp
    · exact .head _
    · rcases List.mem_cons.mp hp with rfl | hp
      · exact .tail _ (.head _)
      · exact .tail _ (.tail _ (.tail _ hp)))) fun p hp => Nat.lt_succ_of_lt (nl p hp)⟩
end Mine
end
section
open PySem PySem.W PyProof.Rows PySem.Calls
namespace Mine
/-- as Tell, where the call may raise the own exception with limitcheck: then Bad is so -/
def TellR (w : World) (mean : ExcName → Option Value) (mg mb : Str → Option Value) (f : Addr) (need : Nat) (vs : List Value) (Out : Value → Prop) (Bad : Prop) : Prop :=
  ∀ (dp un : Nat) (gd : Option (List Code)) (cn : Str) (cs : Scope) (a : Addr) (ccd : Value) (cl : List (Str × Addr)) (outer : List Env) (A₀ : Around) (base h₀ : Heap) (L : Addr) (m : Str → Option Value) (news : List (Addr × Obj)) (s : Shared) (Q E : Value → Shared → Prop),
    Below A₀ base outer h₀ → Fr h₀ L s.heap m → (hd.heap_39 w.params).In h₀ → News h₀ L s.heap news → TopM mean mg mb h₀ → cs.kind = .function → dp + need < recursionLimit → un + 8 * need < cLine →
    (∀ r h' tk', Fr h₀ L h' m → News h₀ L h' news → Out r → Q r { s with heap := h', toks := tk' }) →
    (∀ e D tk₀ tb G h' tk', Fr h₀ L G m → G.UpToSlots h' → RaisedP base G (envX cn cs L a ccd cl :: outer) e D ((D, toldObj w.params tk₀ (.bytes limB.toArray tb)) :: news) h' → Bad → E (.ref e) { s with heap := h', toks := tk' }) →
    wpAny (model PySem.Challenge.rw_on0257_01.row.prog w) (ktrTop dp un gd cn cs L a ccd cl outer) (call (.ref f) vs) Q E s
theorem TellR.use {w : World} {mean : ExcName → Option Value} {mg mb : Str → Option Value} {f : Addr} {need : Nat} {vs : List Value} {Out : Value → Prop} {Bad : Prop} (T : TellR w mean mg mb f need vs Out Bad)
    {dp un : Nat} {gd : Option (List Code)} {cn : Str} {cs : Scope} {a : Addr} {ccd : Value} {cl : List (Str × Addr)} {outer : List Env} {A₀ : Around} {base h₀ : Heap} {L : Addr} {m : Str → Option Value} {news : List (Addr × Obj)} {s : Shared} {Q E : Value → Shared → Prop}
    (B : Below A₀ base outer h₀) (F : Fr h₀ L s.heap m) (X : (hd.heap_39 w.params).In h₀) (N : News h₀ L s.heap news) (Tp : TopM mean mg mb h₀) (hk : cs.kind = .function) (hd1 : dp + need < recursionLimit) (hu : un + 8 * need < cLine)
    (ret : ∀ r h' tk', Fr h₀ L h' m → News h₀ L h' news → Out r → Q r { s with heap := h', toks := tk' })
    (rai : ∀ e D tk₀ tb G h' tk', Fr h₀ L G m → G.UpToSlots h' → RaisedP base G (envX cn cs L a ccd cl :: outer) e D ((D, toldObj w.params tk₀ (.bytes limB.toArray tb)) :: news) h' → Bad → E (.ref e) { s with heap := h', toks := tk' }) :
    wpAny (model PySem.Challenge.rw_on0257_01.row.prog w) (ktrTop dp un gd cn cs L a ccd cl outer) (call (.ref f) vs) Q E s :=
  T _ _ _ _ _ _ _ _ _ _ _ _ _ _ _ _ _ _ B F X N Tp hk hd1 hu ret rai
end Mine
end
section
open PySem PySem.W PyProof.Rows PySem.Calls
namespace Mine
local macro_rules | `(tactic| walk_at $s:str) => `(tactic| k_extra $s)
abbrev bigV (x : Int) : Prop := 1000000000000000000000 < x ∨ x < -1000000000000000000000
def chkOut (x : Int) (r : Value) : Prop := ∃ t, r = .int x t ∧ ¬ bigV x
set_option maxRecDepth 100000 in
set_option maxHeartbeats 8000000 in
theorem checked_real_tells (w : World) (mean : ExcName → Option Value) (mg mb : Str → Option Value) (x : Int) (tk : Tok) : TellR w mean mg mb 68 8 [.int x tk] (chkOut x) (bigV x) := by
  unfold TellR
  k_fill
  intro dp un gd cn cs a ccd cl outer A₀ base h₀ L m news s Q E hB hF hK hN hT hk hd1 hu hret hrai
  refine wpAny_call ?_
  k_dflt cell_enter
  k_with_none
  k_with "exec Raise some none" => ((k_here; k_dflt (refine' ps_raise ?tB ?tF ?tX ?tN ?tT ?tk ?td ?tu ?hx ?_; (case tB => k_asm); (case tF => k_asm); (case tX => k_asm); (case tN => k_asm); (case tT => k_asm); (case tk => first | exact rfl | assumption); (case td => ktr_room); (case tu => ktr_units); (case hx => exact rfl); k_whole); intro e9 t9 D9 h' tk' tk9 tb9 F' N' nl9))
  k_with "leaving ref" => ((k_here; k_dflt (refine' leave_firstP ?K ?F ?N ?d ?ne ?_ ?hk; (case K => k_asm); (case F => k_asm); (case N => k_asm); (case d => exact fun _ q => nomatch q); (case ne => exact fun p hp => Nat.ne_of_lt (by apply_assumption; exact hp)); (case hk => exact rfl); k_whole); intro h' R9 U9))
  k_steps
  · refine' hrai _ _ _ _ _ _ _ ?f9 ?u9 ?r9 ?b9
    case f9 => assumption
    case u9 => assumption
    case r9 => assumption
    case b9 => (rename _ < ite _ _ _ => a9); unfold bigV; split at a9 <;> omega
  · refine' hret _ _ _ ?f9 ?n9 ?o9
    case f9 => assumption
    case n9 => assumption
    case o9 => (rename ¬ _ < ite _ _ _ => a9); refine ⟨_, rfl, ?_⟩; unfold bigV; split at a9 <;> omega
end Mine
end
section
open PySem PySem.W PyProof.Rows PySem.Calls
namespace Mine
local macro_rules | `(tactic| walk_at "no key 0") => `(tactic| skip)
theorem div_side {b : Int} (h1 : 1 ≤ b) : (2 * if b < 0 then -b else b) ≠ 0 := by split <;> omega
theorem div_log {b : Int} (h1 : 1 ≤ b) (h2 : b < 10 ^ 400) : (2 * if b < 0 then -b else b).natAbs.log2 < 9000 := by
  rw [if_neg (by omega)]
  refine (Nat.log2_lt (by omega)).mpr (Nat.lt_of_lt_of_le (m := 2 ^ 1400) (by omega) (Nat.pow_le_pow_right (by decide) (by decide)))
def divV (n b : Int) : Int := if n < 0 then -Int.fdiv (2 * -n + b) (2 * b) else Int.fdiv (2 * n + b) (2 * b)
theorem div_pos {n b : Int} (h1 : 1 ≤ b) (h : (decide (n < 0) == decide (b < 0)) = true) : ((2 * if n < 0 then -n else n) + if b < 0 then -b else b).fdiv (2 * if b < 0 then -b else b) = divV n b := by
  have hb : ¬ b < 0 := by omega
  have hn : ¬ n < 0 := fun q => by rw [decide_eq_true q, decide_eq_false hb] at h; cases h
  unfold divV
  rw [if_neg hb, if_neg hn, if_neg hn]
theorem div_neg {n b : Int} (h1 : 1 ≤ b) (h : (decide (n < 0) == decide (b < 0)) = false) : -((2 * if n < 0 then -n else n) + if b < 0 then -b else b).fdiv (2 * if b < 0 then -b else b) = divV n b := by
  have hb : ¬ b < 0 := by omega
  have hn : n < 0 := Decidable.byContradiction fun q => by rw [decide_eq_false q, decide_eq_false hb] at h; cases h
  unfold divV
  rw [if_neg hb, if_pos hn, if_pos hn]
local macro_rules | `(tactic| walk_at $s:str) => `(tactic| k_extra $s)
set_option maxRecDepth 100000 in
set_option maxHeartbeats 8000000 in
theorem divided_tells (w : World) (mean : ExcName → Option Value) (mg mb : Str → Option Value) (n b : Int) (tn tb : Tok) (h1 : 1 ≤ b) (h2 : b < 10 ^ 400) (h3 : n < 10 ^ 400) (h4 : - 10 ^ 400 < n) : Tell w mean mg mb 61 1 [.int n tn, .int b tb] (OutInt (divV n b)) := by
  unfold Tell
  k_fill
  intro dp un gd cn cs a ccd cl outer A₀ base h₀ L m news s Q E hB hF hK hN hT hk hd1 hu hret
  refine wpAny_call ?_
  k_dflt cell_enter
  k_with_none
  k_with "binaryOp FloorDiv int int" => ((k_here; (with_reducible refine floordiv_int ?ne9 ?_ (Or.inl (PyProof.noPylong_of_log2 ?lg9))); (case ne9 => exact div_side (by assumption)); (case lg9 => exact div_log (by assumption) (by assumption))))
  k_steps
  all_goals (refine' hret _ _ _ ?f9 ?n9 ?o9; (case f9 => assumption); (case n9 => first | assumption | exact news_skip (own := []) (by assumption) | exact fun p hp => by exact (‹News _ _ _ (_ :: news)›) p (.tail _ hp)); (case o9 => first
    | exact ⟨_, congrArg (Value.int · _) (div_pos (by assumption) (by assumption))⟩
    | exact ⟨_, congrArg (Value.int · _) (div_neg (by assumption) (by assumption))⟩))
end Mine
end
section
open PySem PySem.W PyProof.Rows PySem.Calls
namespace Mine
theorem bits_le {a : Int} {k : Nat} (h : a.natAbs < 2 ^ k) : Builtin.Int.intBits a ≤ k := by
  unfold Builtin.Int.intBits
  split
  · exact Nat.zero_le _
  · rename_i hz
    have hz' : a ≠ 0 := by simpa using hz
    have := (Nat.log2_lt (by omega)).mpr h
    omega
theorem ten_cast (k : Nat) : (10 : Int) ^ k = ((10 ^ k : Nat) : Int) := by push_cast; rfl
theorem bits_num {n : Int} (h3 : n < 10 ^ 100) (h4 : -10 ^ 100 < n) : Builtin.Int.intBits n ≤ 333 := bits_le (Nat.lt_of_lt_of_le (m := 10 ^ 100) (by omega) (by decide))
theorem mul_side {n t : Int} (h3 : n < 10 ^ 100) (h4 : -10 ^ 100 < n) (ht : ¬ 32 < t) : IntMulOk n (10 ^ t.toNat) := by
  refine IntMulOk.of_bits (Nat.le_trans (bits_num h3 h4) (by decide)) (Nat.le_trans (bits_le (k := 107) ?_) (by decide))
  rw [ten_cast, Int.natAbs_natCast]
  exact Nat.lt_of_le_of_lt (Nat.pow_le_pow_right (by decide) (show t.toNat ≤ 32 by omega)) (by decide)
theorem div_b1 (k : Nat) : (1 : Int) ≤ 10 ^ k := by
  rw [ten_cast]
  have := Nat.pow_pos (n := k) (show 0 < 10 by decide)
  omega
theorem div_b2 {n t : Int} (h3 : n < 10 ^ 100) (h4 : -10 ^ 100 < n) (h : ¬ (Builtin.Int.intBits n : Int) < -t) : (10 : Int) ^ (-t).toNat < 10 ^ 400 := by
  have hb := bits_num h3 h4
  have : (10 : Nat) ^ (-t).toNat < 10 ^ 400 := Nat.pow_lt_pow_right (by decide) (by omega)
  rw [ten_cast]
  have h2 : ((10 ^ 400 : Nat) : Int) = (10 : Int) ^ 400 := (ten_cast 400).symm
  omega
end Mine
end
section
open PySem PySem.W PyProof.Rows PySem.Calls
namespace Mine
theorem num_lt {n : Int} (h : n < 10 ^ 100) : n < 10 ^ 400 := by
  have : (10 : Int) ^ 100 < 10 ^ 400 := by rw [ten_cast, ten_cast]; exact Int.ofNat_lt.mpr (Nat.pow_lt_pow_right (by decide) (by decide))
  omega
theorem num_gt {n : Int} (h : -10 ^ 100 < n) : -10 ^ 400 < n := by
  have : (10 : Int) ^ 100 < 10 ^ 400 := by rw [ten_cast, ten_cast]; exact Int.ofNat_lt.mpr (Nat.pow_lt_pow_right (by decide) (by decide))
  omega
local macro_rules | `(tactic| walk_at $s:str) => `(tactic| k_extra $s)
def chkV (x : Int) : Option Int := if bigV x then none else some x
def sclV (n t : Int) : Option Int := if n = 0 then some 0 else if 0 ≤ t then (if 32 < t then none else chkV (n * 10 ^ t.toNat)) else if (Builtin.Int.intBits n : Int) < -t then some 0 else chkV (divV n (10 ^ (-t).toNat))
def OutSome (o : Option Int) (r : Value) : Prop := ∃ x t, o = some x ∧ r = .int x t
section
variable {n t : Int}
theorem scl_zero (h : n = 0) : sclV n t = some 0 := by unfold sclV; rw [if_pos h]
theorem scl_far (h : n ≠ 0) (h0 : 0 ≤ t) (h1 : 2 * 6 + 20 < t) : sclV n t = none := by unfold sclV; rw [if_neg h, if_pos h0, if_pos (by omega)]
theorem scl_up (h : n ≠ 0) (h0 : 0 ≤ t) (h1 : ¬ 2 * 6 + 20 < t) (hb : ¬ bigV (n * 10 ^ t.toNat)) : sclV n t = some (n * 10 ^ t.toNat) := by unfold sclV chkV; rw [if_neg h, if_pos h0, if_neg (by omega), if_neg hb]
theorem scl_upb (h : n ≠ 0) (h0 : 0 ≤ t) (h1 : ¬ 2 * 6 + 20 < t) (hb : bigV (n * 10 ^ t.toNat)) : sclV n t = none := by unfold sclV chkV; rw [if_neg h, if_pos h0, if_neg (by omega), if_pos hb]
theorem scl_low (h : n ≠ 0) (h0 : ¬ 0 ≤ t) (h1 : (Builtin.Int.intBits n : Int) < -t) : sclV n t = some 0 := by unfold sclV; rw [if_neg h, if_neg h0, if_pos h1]
theorem scl_dn (h : n ≠ 0) (h0 : ¬ 0 ≤ t) (h1 : ¬ (Builtin.Int.intBits n : Int) < -t) (hb : ¬ bigV (divV n (10 ^ (-t).toNat))) : sclV n t = some (divV n (10 ^ (-t).toNat)) := by unfold sclV chkV; rw [if_neg h, if_neg h0, if_neg h1, if_neg hb]
theorem scl_dnb (h : n ≠ 0) (h0 : ¬ 0 ≤ t) (h1 : ¬ (Builtin.Int.intBits n : Int) < -t) (hb : bigV (divV n (10 ^ (-t).toNat))) : sclV n t = none := by unfold sclV chkV; rw [if_neg h, if_neg h0, if_neg h1, if_pos hb]
end
set_option maxRecDepth 100000 in
set_option maxHeartbeats 8000000 in
theorem number_scaled_tells (w : World) (mean : ExcName → Option Value) (mg mb : Str → Option Value) (n tens : Int) (tn tt : Tok) (h3 : n < 10 ^ 100) (h4 : - 10 ^ 100 < n) (h5 : tens ≤ 2000000) (h6 : -2000000 ≤ tens) : TellR w mean mg mb 89 12 [.int n tn, .int tens tt] (OutSome (sclV n tens)) (sclV n tens = none) := by
  unfold TellR
  k_fill
  intro dp un gd cn cs a ccd cl outer A₀ base h₀ L m news s Q E hB hF hK hN hT hk hd1 hu hret hrai
  have hbits := bits_num h3 h4
  refine wpAny_call ?_
  k_dflt cell_enter
  k_with_none
  k_with "exec Raise some none" => ((k_here; k_dflt (refine' ps_raise ?tB ?tF ?tX ?tN ?tT ?tk ?td ?tu ?hx ?_; (case tB => k_asm); (case tF => k_asm); (case tX => k_asm); (case tN => k_asm); (case tT => k_asm); (case tk => first | exact rfl | assumption); (case td => ktr_room); (case tu => ktr_units); (case hx => exact rfl); k_whole); intro e9 t9 D9 h' tk' tk9 tb9 F' N' nl9))
  k_with "leaving ref" => (
    (k_here; first
      | (k_dflt (refine' leave_onP ?K ?F ?R ?U ?_; (case K => k_asm); (case F => assumption); (case R => assumption); (case U => assumption); k_whole); intro h' R9 U9)
      | (k_dflt (refine' leave_firstP ?K ?F ?N ?d ?ne ?_ ?hk; (case K => k_asm); (case F => k_asm); (case N => k_asm); (case d => exact fun _ q => nomatch q); (case ne => exact fun p hp => Nat.ne_of_lt (by apply_assumption; exact hp)); (case hk => exact rfl); k_whole); intro h' R9 U9)))
  k_with "call ref" => (
    first
      | ((with_reducible show wpAny _ _ (PySem.call _ [Value.int _ _, Value.int _ _]) _ _ _); (k_here; k_dflt (refine' Tell.use (divided_tells _ _ _ _ _ _ _ _ ?b1 ?b2 ?b3 ?b4) ?tB ?tF ?tX ?tN ?tT ?tk ?td ?tu ?_); (case b1 => exact div_b1 _); (case b2 => exact div_b2 (by assumption) (by assumption) (by assumption)); (case b3 => exact num_lt (by assumption)); (case b4 => exact num_gt (by assumption)); (case tB => k_asm); (case tF => k_asm); (case tX => k_asm); (case tN => k_asm); (case tT => k_asm); (case tk => first | exact rfl | assumption); (case td => ktr_room); (case tu => ktr_units); k_whole; intro r9 h' tk' F' N' O9; (try k_sweep); obtain ⟨t9, hr9⟩ := O9; subst hr9))
      | ((with_reducible show wpAny _ _ (PySem.call _ [Value.int _ _]) _ _ _); (k_here; k_dflt (refine' TellR.use (checked_real_tells _ _ _ _ _ _) ?tB ?tF ?tX ?tN ?tT ?tk ?td ?tu ?_ ?_); (case tB => k_asm); (case tF => k_asm); (case tX => k_asm); (case tN => k_asm); (case tT => k_asm); (case tk => first | exact rfl | assumption); (case td => ktr_room); (case tu => ktr_units); k_whole) <;> first | intro e9 D9 tk9 tb9 G9 h' tk' F9 U9 R9 hb9 | (intro r9 h' tk' F' N' O9; (try k_sweep); obtain ⟨t9, hr9, hb9⟩ := O9; subst hr9)))
  k_with "binaryOp Mult int int" => ((k_here; (fail_if_success (with_reducible show wpAny _ _ (binaryOp _ (Value.int 2 _) _) _ _ _)); (with_reducible refine mul_int ?_ ?hm9); (case hm9 => exact mul_side (by assumption) (by assumption) (by omega))))
  k_steps
  all_goals first
    | (refine' hret _ _ _ ?f9 ?n9 ?o9; (case f9 => assumption); (case n9 => assumption); (case o9 => first
      | exact ⟨_, _, scl_zero (by assumption), rfl⟩
      | exact ⟨_, _, scl_up (by assumption) (by assumption) (by assumption) (by assumption), rfl⟩
      | exact ⟨_, _, scl_low (by assumption) (by assumption) (by assumption), rfl⟩
      | exact ⟨_, _, scl_dn (by assumption) (by assumption) (by assumption) (by assumption), rfl⟩))
    | (refine' hrai _ _ _ _ _ _ _ ?f9 ?u9 ?r9 ?b9; (case f9 => assumption); (case u9 => assumption); (case r9 => assumption); (case b9 => first
      | exact scl_far (by assumption) (by assumption) (by assumption)
      | exact scl_upb (by assumption) (by assumption) (by assumption) (by assumption)
      | exact scl_dnb (by assumption) (by assumption) (by assumption) (by assumption)))
end Mine
end
section
open PySem PySem.W PyProof.Rows PySem.Calls
namespace Mine
theorem digV_nonneg {c d : Int} (h : digV c = some d) : 0 ≤ d := by
  unfold digV at h
  split at h
  · cases h; omega
  · split at h
    · cases h; omega
    · split at h
      · cases h; omega
      · cases h
theorem figAcc_bound : ∀ (r : List Int) {x : Int}, figAcc r.reverse = some x → 0 ≤ x ∧ x < 10 ^ r.length
  | [], x, h => by cases h; exact ⟨Int.le_refl _, by decide⟩
  | c :: r, x, h => by
    rw [List.reverse_cons, figAcc_snoc] at h
    cases ha : figAcc r.reverse with
    | none => rw [ha] at h; cases h
    | some a =>
      have ih := figAcc_bound r ha
      rw [ha] at h
      unfold figStep at h
      dsimp only at h
      split at h
      · cases h
      · rename_i d hd
        have h0 := digV_nonneg hd
        split at h
        · cases h
        · cases h
          rw [List.length_cons, Int.pow_succ]
          omega
theorem figV_bound {l : List Int} {x : Int} (h : figV l = some x) : 0 ≤ x ∧ x < 10 ^ l.length := by
  unfold figV at h
  split at h
  · cases h
  · have := figAcc_bound l.reverse (x := x) (by rw [List.reverse_reverse]; exact h)
    rwa [List.length_reverse] at this
theorem ten_le {k n : Nat} (h : k ≤ n) : (10 : Int) ^ k ≤ 10 ^ n := by
  rw [ten_cast, ten_cast]; exact Int.ofNat_le.mpr (Nat.pow_le_pow_right (by decide) h)
theorem figV_lt {l : List Int} {x : Int} (h : figV l = some x) (hl : l.length ≤ 100) : 0 ≤ x ∧ x < 10 ^ 100 :=
  ⟨(figV_bound h).1, Int.lt_of_lt_of_le (figV_bound h).2 (ten_le hl)⟩
theorem expV_bound {l : List Int} {x : Int} (h : expV l = some x) : -1000000 ≤ x ∧ x ≤ 1000000 := by
  unfold expV at h
  obtain ⟨y, hy, rfl⟩ := Option.map_eq_some_iff.mp h
  have hy0 := (figV_bound hy).1
  have e : (10 : Int) ^ Int.toNat 6 = 1000000 := by decide
  have : 0 ≤ capV y ∧ capV y ≤ 1000000 := by
    unfold capV
    rw [e]
    split <;> omega
  split <;> omega
end Mine
end
section
open PySem PySem.W PyProof.Rows PySem.Calls
namespace Mine
local macro_rules | `(tactic| walk_at "no key 0") => `(tactic| skip)
theorem isOptB {o : Option (List Int)} {v : Value} (h : IsOptB o v) : (o = none ∧ v = .none) ∨ ∃ l y t, o = some l ∧ v = .bytes y t ∧ KBw.bInts y = l := by
  cases o with
  | none => exact .inl ⟨rfl, h⟩
  | some l => obtain ⟨y, t, h1, h2⟩ := h; exact .inr ⟨l, y, t, rfl, h1, h2⟩
theorem splitV_len (sg : List Int) : ∀ l : List Int, (splitV sg l).1.length + ((splitV sg l).2.getD []).length ≤ l.length
  | [] => Nat.le_refl _
  | c :: r => by
    have ih := splitV_len sg r
    unfold splitV
    split
    · simp
    · simp only [List.length_cons]; omega
theorem split_size {sg b x : Array UInt8} (h : KBw.bInts x = (splitV (KBw.bInts sg) (KBw.bInts b)).1) : x.size ≤ b.size := by
  have := splitV_len (KBw.bInts sg) (KBw.bInts b)
  rw [← h, KBw.ints_length, KBw.ints_length] at this
  omega
theorem split_size2 {sg b x y : Array UInt8} {l : List Int} (h : KBw.bInts x = (splitV (KBw.bInts sg) (KBw.bInts b)).1) (h2 : (splitV (KBw.bInts sg) (KBw.bInts b)).2 = some l) (h3 : KBw.bInts y = l) : x.size + y.size ≤ b.size := by
  have := splitV_len (KBw.bInts sg) (KBw.bInts b)
  rw [← h, h2, Option.getD_some, ← h3, KBw.ints_length, KBw.ints_length, KBw.ints_length] at this
  exact this
def readX (t n : Option Int) (k : Int) (below : Bool) : Option (Option Int) := match t, n with
  | some t, some n => some (sclV (if below = true then -n else n) (t - k + 6))
  | _, _ => none
noncomputable def readW (p : List Int × Option (List Int)) (below : Bool) : Option (Option Int) :=
  match p.2, (splitV (KBw.bInts #[46]) p.1).2 with
  | none, none => none
  | none, some l => readX (some 0) (figV ((splitV (KBw.bInts #[46]) p.1).1 ++ l)) l.length below
  | some e, none => readX (expV e) (figV ((splitV (KBw.bInts #[46]) p.1).1)) 0 below
  | some e, some l => readX (expV e) (figV ((splitV (KBw.bInts #[46]) p.1).1 ++ l)) l.length below
/-- what read_real tells: none for None, some none where it raises limitcheck, some (some x) for (REAL, x) -/
noncomputable def readV (l : List Int) (below : Bool) : Option (Option Int) := readW (splitV (KBw.bInts #[101, 69]) l) below
theorem ints_append (x y : Array UInt8) : KBw.bInts (x ++ y) = KBw.bInts x ++ KBw.bInts y := by unfold KBw.bInts; simp
theorem readX_t {n : Option Int} {k : Int} {below : Bool} : readX none n k below = none := by cases n <;> rfl
theorem readX_n {t : Option Int} {k : Int} {below : Bool} : readX t none k below = none := by cases t <;> rfl
section
variable {l l1 l2 : List Int} {below : Bool} {x1 x2 y1 y2 : Array UInt8} {x z t n : Int}
theorem read_nn (h1 : KBw.bInts x1 = (splitV (KBw.bInts #[101, 69]) l).1) (n1 : (splitV (KBw.bInts #[101, 69]) l).2 = none) (n2 : (splitV (KBw.bInts #[46]) (KBw.bInts x1)).2 = none) : readV l below = none := by
  unfold readV readW; rw [n1, ← h1, n2]
theorem read_ns (h1 : KBw.bInts x1 = (splitV (KBw.bInts #[101, 69]) l).1) (n1 : (splitV (KBw.bInts #[101, 69]) l).2 = none) (h2 : KBw.bInts x2 = (splitV (KBw.bInts #[46]) (KBw.bInts x1)).1)
    (n2 : (splitV (KBw.bInts #[46]) (KBw.bInts x1)).2 = some l2) (e2 : KBw.bInts y2 = l2) : readV l below = readX (some 0) (figV (KBw.bInts (x2 ++ y2))) y2.size below := by
  unfold readV readW; rw [n1, ← h1, n2, ← h2, ints_append, e2]; dsimp only; rw [← e2, KBw.ints_length]
theorem read_sn (h1 : KBw.bInts x1 = (splitV (KBw.bInts #[101, 69]) l).1) (n1 : (splitV (KBw.bInts #[101, 69]) l).2 = some l1) (e1 : KBw.bInts y1 = l1) (h2 : KBw.bInts x2 = (splitV (KBw.bInts #[46]) (KBw.bInts x1)).1)
    (n2 : (splitV (KBw.bInts #[46]) (KBw.bInts x1)).2 = none) : readV l below = readX (expV (KBw.bInts y1)) (figV (KBw.bInts (x2 ++ #[]))) ((#[] : Array UInt8).size : Nat) below := by
  unfold readV readW; rw [n1, ← h1, n2, ← h2, Array.append_empty, e1]; rfl
theorem read_ss (h1 : KBw.bInts x1 = (splitV (KBw.bInts #[101, 69]) l).1) (n1 : (splitV (KBw.bInts #[101, 69]) l).2 = some l1) (e1 : KBw.bInts y1 = l1) (h2 : KBw.bInts x2 = (splitV (KBw.bInts #[46]) (KBw.bInts x1)).1)
    (n2 : (splitV (KBw.bInts #[46]) (KBw.bInts x1)).2 = some l2) (e2 : KBw.bInts y2 = l2) : readV l below = readX (expV (KBw.bInts y1)) (figV (KBw.bInts (x2 ++ y2))) y2.size below := by
  unfold readV readW; rw [n1, ← h1, n2, ← h2, ints_append, e1, e2]; dsimp only; rw [← e2, KBw.ints_length]
theorem read_told {to no : Option Int} {k : Int} {o : Option Int} (R : readV l below = readX to no k below) (ht : to = some t) (hn : no = some n) (hz : z = if below = true then -n else n) (hs : sclV z (t - k + 6) = o) : readV l below = some o := by
  subst ht hn hz hs; exact R
theorem read_tn {to no : Option Int} {k : Int} (R : readV l below = readX to no k below) (ht : to = none) : readV l below = none := by subst ht; rw [R, readX_t]
theorem read_fn {to no : Option Int} {k : Int} (R : readV l below = readX to no k below) (hn : no = none) : readV l below = none := by subst hn; rw [R, readX_n]
end
theorem raisedP_sub {base G h : Heap} {l : List Env} {e D : Addr} {news news' : List (Addr × Obj)} (R : RaisedP base G l e D news h) (s : ∀ p ∈ news', p ∈ news) : RaisedP base G l e D news' h := by
  obtain ⟨B, a, b, c, d⟩ := R
  exact ⟨B, a, b, fun q hq => c q (s q hq), d⟩
theorem lt_of_allLt {d : Nat} {l : List (Addr × Obj)} (h : AllLt d l) : ∀ p ∈ l, p.1 < d := by
  induction l with
  | nil => intro p hp; cases hp
  | cons a r ih =>
    intro p hp
    rcases List.mem_cons.mp hp with rfl | hp
    · exact h.1
    · exact ih h.2 p hp
def OutReal (o : Option (Option Int)) (ob : Obj) : Prop := ∃ x t u, o = some (some x) ∧ ob = { cls := .type "tuple", data := .seq #[.str "real" u, .int x t] }
/-- as TellR, where the call hands back None, or one object that it has made, or raises -/
def TellM (w : World) (mean : ExcName → Option Value) (mg mb : Str → Option Value) (f : Addr) (need : Nat) (vs : List Value) (Nil : Prop) (Out : Obj → Prop) (Bad : Prop) : Prop :=
  ∀ (dp un : Nat) (gd : Option (List Code)) (cn : Str) (cs : Scope) (a : Addr) (ccd : Value) (cl : List (Str × Addr)) (outer : List Env) (A₀ : Around) (base h₀ : Heap) (L : Addr) (m : Str → Option Value) (news : List (Addr × Obj)) (s : Shared) (Q E : Value → Shared → Prop),
    Below A₀ base outer h₀ → Fr h₀ L s.heap m → (hd.heap_39 w.params).In h₀ → News h₀ L s.heap news → TopM mean mg mb h₀ → cs.kind = .function → dp + need < recursionLimit → un + 8 * need < cLine →
    (∀ h' tk', Fr h₀ L h' m → News h₀ L h' news → Nil → Q .none { s with heap := h', toks := tk' }) →
    (∀ D o h' tk', Fr h₀ L h' m → News h₀ L h' ((D, o) :: news) → (∀ q ∈ news, q.1 < D) → Out o → Q (.ref D) { s with heap := h', toks := tk' }) →
    (∀ e D tk₀ tb G h' tk', Fr h₀ L G m → G.UpToSlots h' → RaisedP base G (envX cn cs L a ccd cl :: outer) e D ((D, toldObj w.params tk₀ (.bytes limB.toArray tb)) :: news) h' → Bad → E (.ref e) { s with heap := h', toks := tk' }) →
    wpAny (model PySem.Challenge.rw_on0257_01.row.prog w) (ktrTop dp un gd cn cs L a ccd cl outer) (call (.ref f) vs) Q E s
local macro_rules | `(tactic| walk_at $s:str) => `(tactic| k_extra $s)
set_option maxRecDepth 100000 in
set_option maxHeartbeats 8000000 in
theorem read_real_tells (w : World) (mean : ExcName → Option Value) (mg mb : Str → Option Value) (b : Array UInt8) (tb : Tok) (below : Bool) (hb : b.size ≤ 90) : TellM w mean mg mb 103 20 [.bytes b tb, .bool below] (readV (KBw.bInts b) below = none) (OutReal (readV (KBw.bInts b) below)) (readV (KBw.bInts b) below = some none) := by
  unfold TellM
  k_fill
  intro dp un gd cn cs a ccd cl outer A₀ base h₀ L m news s Q E hB hF hK hN hT hk hd1 hu hnil hret hrai
  refine wpAny_call ?_
  k_dflt cell_enter
  k_with_none
  k_with "leaving ref" => ((k_here; (k_dflt (refine' leave_onP ?K ?F ?R ?U ?_; (case K => k_asm); (case F => assumption); (case R => assumption); (case U => assumption); k_whole); intro h' R9 U9)))
  k_with "binaryOp Add bytes bytes" => ((k_here; (with_reducible show wpAny _ _ (binaryOp Operator.Add (Value.bytes _ _) (Value.bytes _ _)) _ _ _); (refine KBy.add_bytes (by (try simp only [List.size_toArray, List.length_nil]); omega) ?_); intro t9 tk'))
  k_with "call ref" => (
    first
      | ((with_reducible show wpAny _ _ (PySem.call _ [Value.bytes _ _, Value.bytes _ _]) _ _ _); k_here; k_dflt (refine' TellT.use (split_at_tells _ _ _ _ _ _ _ _ ?sz) ?tB ?tF ?tX ?tN ?tT ?tk ?td ?tu ?_); (case sz => omega); (case tB => k_asm); (case tF => k_asm); (case tX => k_asm); (case tN => k_asm); (case tT => k_asm); (case tk => first | exact rfl | assumption); (case td => ktr_room); (case tu => ktr_units); k_whole; intro D9 o9 h' tk' F' N' l9 O9; (try k_sweep); obtain ⟨x9, t9, v9, ho9, hx9, hv9⟩ := O9; subst ho9; (have hs9 := split_size hx9); rcases isOptB hv9 with ⟨hn9, hv9⟩ | ⟨l9, y9, u9, hn9, hv9, hy9⟩ <;> subst hv9 <;> (try have hs9 := split_size2 hx9 hn9 hy9))
      | ((with_reducible show wpAny _ _ (PySem.call _ [Value.bytes _ _]) _ _ _); k_here; k_dflt (refine' Tell.use (read_exponent_tells _ _ _ _ _ _ ?sz) ?tB ?tF ?tX ?tN ?tT ?tk ?td ?tu ?_); (case sz => omega); (case tB => k_asm); (case tF => k_asm); (case tX => k_asm); (case tN => k_asm); (case tT => k_asm); (case tk => first | exact rfl | assumption); (case td => ktr_room); (case tu => ktr_units); k_whole; intro r9 h' tk' F' N' O9; (try k_sweep); rcases O9 with ⟨hE9, hr9⟩ | ⟨x9, t9, hE9, hr9⟩ <;> subst hr9 <;> (try have hs9 := expV_bound hE9))
      | ((with_reducible show wpAny _ _ (PySem.call _ [Value.bytes _ _, Value.int _ _]) _ _ _); k_here; k_dflt (refine' Tell.use (figures_value_tells _ _ _ _ _ _ _ ?sz) ?tB ?tF ?tX ?tN ?tT ?tk ?td ?tu ?_); (case sz => (try simp only [Array.size_append, Array.size_empty, List.size_toArray, List.length_nil]); omega); (case tB => k_asm); (case tF => k_asm); (case tX => k_asm); (case tN => k_asm); (case tT => k_asm); (case tk => first | exact rfl | assumption); (case td => ktr_room); (case tu => ktr_units); k_whole; intro r9 h' tk' F' N' O9; (try k_sweep); rcases O9 with ⟨hD9, hr9⟩ | ⟨x9, t9, hD9, hr9⟩ <;> subst hr9 <;> (try have hs9 := figV_lt hD9 (by rw [KBw.ints_length]; (try simp only [Array.size_append, Array.size_empty, List.size_toArray, List.length_nil]); omega)))
      | ((with_reducible show wpAny _ _ (PySem.call _ [Value.int _ _, Value.int _ _]) _ _ _); k_here; k_dflt (refine' TellR.use (number_scaled_tells _ _ _ _ _ _ _ _ ?b1 ?b2 ?b3 ?b4) ?tB ?tF ?tX ?tN ?tT ?tk ?td ?tu ?_ ?_); (case b1 => omega); (case b2 => omega); (case b3 => (try simp only [Array.size_empty, List.size_toArray, List.length_nil]); omega); (case b4 => (try simp only [Array.size_empty, List.size_toArray, List.length_nil]); omega); (case tB => k_asm); (case tF => k_asm); (case tX => k_asm); (case tN => k_asm); (case tT => k_asm); (case tk => first | exact rfl | assumption); (case td => ktr_room); (case tu => ktr_units); k_whole <;> first | (intro r9 h' tk' F' N' O9; obtain ⟨x9, t9, hr9, hb9⟩ := O9; subst hb9; (try k_sweep)) | intro e9 D9 tk9 tb9 G9 h' tk' F9 U9 R9 hb9))
  k_steps
  all_goals (first
    | (have R9 := read_ns (below := below) (by assumption) (by assumption) (by assumption) (by assumption) (by assumption))
    | (have R9 := read_ss (below := below) (by assumption) (by assumption) (by assumption) (by assumption) (by assumption) (by assumption))
    | (have R9 := read_sn (below := below) (by assumption) (by assumption) (by assumption) (by assumption) (by assumption))
    | (have R9 := read_nn (below := below) (by assumption) (by assumption) (by assumption)))
  all_goals first
    | (refine' hnil _ _ ?f9 ?n9 ?o9; (case f9 => assumption); (case n9 => exact fun p hp => by exact (‹News h₀ _ _ (_ :: _ :: news)›) p (.tail _ (.tail _ hp))); (case o9 => first | assumption | exact read_fn (by assumption) (by assumption) | exact read_tn (by assumption) (by assumption)))
    | (refine' hret _ _ _ _ ?f9 ?n9 ?l9 ?o9; (case f9 => assumption); (case n9 => exact fun p hp => by exact (‹News h₀ _ _ (_ :: _ :: _ :: news)›) p (by rcases List.mem_cons.mp hp with rfl | hp; exact .head _; exact .tail _ (.tail _ (.tail _ hp)))); (case l9 => exact lt_of_allLt (‹_ < _ ∧ _ < _ ∧ AllLt _ news›).2.2); (case o9 => exact ⟨_, _, _, read_told (by assumption) (by first | rfl | assumption) (by assumption) (by (rename below = _ => hb9; rw [hb9]; first | done | rfl)) (by assumption), rfl⟩))
    | (refine' hrai _ _ _ _ _ _ _ ?f9 ?u9 ?r9 ?b9; (case f9 => assumption); (case u9 => assumption); (case r9 => exact raisedP_sub (by assumption) (fun p hp => by rcases List.mem_cons.mp hp with rfl | hp; exact .head _; exact .tail _ (.tail _ (.tail _ hp)))); (case b9 => exact read_told (by assumption) (by first | rfl | assumption) (by assumption) (by (rename below = _ => hb9; rw [hb9]; first | done | rfl)) (by assumption)))
end Mine
end
section
open PySem PySem.W PySem.Calls PyProof.Rows Builtin Builtin.ObjectAttr
set_option maxRecDepth 100000
namespace Mine
section
variable {prog : Program} {w : World} {A : Around} {E : Value → Shared → Prop} {s : Shared} {e D : Addr} {oe : Obj} {ws : Array Value} {P : Params} {tk tb : Tok} {b : Array UInt8}
theorem ps_inst {hp : Heap} (he : hp.get? e = some oe) (hc : oe.cls = .ref 45) (hD : oe.dict = some D) (hd : oe.data = .fields ws) (hDo : hp.get? D = some (toldObj P tk (.bytes b tb))) : PySem.W.InstAt hp e oe 45 (some (toldObj P tk (.bytes b tb))) :=
  ⟨he, hc, by unfold notCls; rw [hd], by rw [hD]; exact hDo⟩
theorem ps_find {w : World} : findObj (hd.heap_39 w.params) 45 (some (toldObj P tk (.bytes b tb))) (Str.ofString "told") = some (.value (.bytes b tb)) := by rfl
theorem ps_ga_call {R : Result → Shared → Prop} {tn : Tok} (X : (hd.heap_39 w.params).In s.heap) (I : PySem.W.InstAt s.heap e oe 45 (some (toldObj P tk (.bytes b tb)))) (h : R (.ok (.ret (.bytes b tb))) s) :
    codeAny (model prog w) A (.call (.builtin "BaseException.__getattribute__") ⟨[.ref e, .str (Str.ofString "told") tn], []⟩) R s := by
  have hk : builtinKind "BaseException.__getattribute__" = some .slot := by decide +kernel
  have hsplit : splitId "BaseException.__getattribute__" = some ("BaseException", "__getattribute__") := by decide +kernel
  have sub : Looks (model prog w) s.heap (isInstance (.ref e) (.type "BaseException")) true := I.type.andThen (looks_mroIn X (by rfl))
  refine codeAny_call_builtin PySem.F.attr_Exception.ga.plain PySem.F.entry_bexc_ga (@check_slot (model prog w) _ _ s "BaseException.__getattribute__" "BaseException" "__getattribute__" (.ref e) [.str (Str.ofString "told") tn] [] _ hk hsplit sub (PySem.F.args_bexc_ga (.ref e) (.str (Str.ofString "told") tn)) ?_)
  have L0 := I.type (M := model prog w)
  have L1 := looks_find (M := model prog w) X I ps_find
  unfold Builtin.«object.__getattribute__»
  refine wpAny_bind (wpAny_pure (wpAny_bind (wpAny_pure (wpAny_bind (L0.here (wpAny_bind (L1.here ?_)))))))
  exact wpAny_pure h
theorem ps_get {expr : Bool} {Q : Value → Shared → Prop} (X : (hd.heap_39 w.params).In s.heap) (I : PySem.W.InstAt s.heap e oe 45 (some (toldObj P tk (.bytes b tb)))) (h : Q (.bytes b tb) { s with toks := s.toks + 1 }) :
    wpAny (model prog w) A (getAttr (.ref e) (Str.ofString "told") expr) Q E s := by
  obtain ⟨hh, g, d, t, os⟩ := s
  have L0 := I.type (M := model prog w)
  have L1 : Looks (model prog w) hh (typeLookup (.ref 45) (Str.ofString "__getattribute__")) (some (.builtin "BaseException.__getattribute__")) := looks_findIn X (by rfl)
  have L2 : Looks (model prog w) hh (typeLookup (.ref 45) (Str.ofString "__getattr__")) none := looks_findIn X (by rfl)
  unfold getAttr getAttrBy
  refine wpAny_bind (wpAny_mkText (wpAny_holding (wpAny_bind (L0.at (wpAny_bind (L1.at ?_))))))
  have hx2 : (Value.builtin "BaseException.__getattribute__" == Value.builtin "object.__getattribute__") = false := by decide +kernel
  have hx1 : (onTheHeap (Value.ref 45) && Value.builtin "BaseException.__getattribute__" == Value.builtin "object.__getattribute__") = false := by rw [hx2]; rfl
  have hx0 : (expr && onTheHeap (Value.builtin "BaseException.__getattribute__")) = false := by cases expr <;> rfl
  dsimp only
  rw [if_neg (by rw [hx1]; decide)]
  unfold getAttrByItsOwn
  have hb : hookBefore (Value.ref 45) = typeLookup (.ref 45) (Str.ofString "__getattr__") := by rfl
  rw [hb]
  refine wpAny_bind (L2.at (wpAny_bind (wpAny_attempt (wpAny_holding ?_))))
  unfold callGetattribute
  rw [hx0, if_neg (by decide)]
  unfold boundAndCalled
  rw [PySem.F.attr_Exception.ga.bind]
  refine wpAny_bind (wpAny_pure (wpAny_call (codeAny_mono (ps_ga_call (s := ⟨hh, g, d, t + 1, os⟩) (R := fun r s' => r = .ok (.ret (.bytes b tb)) ∧ s' = ⟨hh, g, d, t + 1, os⟩) X I ⟨rfl, rfl⟩) fun r s' z => ?_)))
  obtain ⟨rfl, rfl⟩ := z
  dsimp only
  show wpAny _ _ (handedOut (.bytes b tb)) _ _ _
  rw [handedOut_of (by rfl)]
  exact wpAny_pure h
end
end Mine
end
section
open PySem PySem.W PyProof.Rows PySem.Calls
namespace Mine
theorem TellM.use {w : World} {mean : ExcName → Option Value} {mg mb : Str → Option Value} {f : Addr} {need : Nat} {vs : List Value} {Nil : Prop} {Out : Obj → Prop} {Bad : Prop} (T : TellM w mean mg mb f need vs Nil Out Bad)
    {dp un : Nat} {gd : Option (List Code)} {cn : Str} {cs : Scope} {a : Addr} {ccd : Value} {cl : List (Str × Addr)} {outer : List Env} {A₀ : Around} {base h₀ : Heap} {L : Addr} {m : Str → Option Value} {news : List (Addr × Obj)} {s : Shared} {Q E : Value → Shared → Prop}
    (B : Below A₀ base outer h₀) (F : Fr h₀ L s.heap m) (X : (hd.heap_39 w.params).In h₀) (N : News h₀ L s.heap news) (Tp : TopM mean mg mb h₀) (hk : cs.kind = .function) (hd1 : dp + need < recursionLimit) (hu : un + 8 * need < cLine)
    (nil : ∀ h' tk', Fr h₀ L h' m → News h₀ L h' news → Nil → Q .none { s with heap := h', toks := tk' })
    (ret : ∀ D o h' tk', Fr h₀ L h' m → News h₀ L h' ((D, o) :: news) → (∀ q ∈ news, q.1 < D) → Out o → Q (.ref D) { s with heap := h', toks := tk' })
    (rai : ∀ e D tk₀ tb G h' tk', Fr h₀ L G m → G.UpToSlots h' → RaisedP base G (envX cn cs L a ccd cl :: outer) e D ((D, toldObj w.params tk₀ (.bytes limB.toArray tb)) :: news) h' → Bad → E (.ref e) { s with heap := h', toks := tk' }) :
    wpAny (model PySem.Challenge.rw_on0257_01.row.prog w) (ktrTop dp un gd cn cs L a ccd cl outer) (call (.ref f) vs) Q E s :=
  T _ _ _ _ _ _ _ _ _ _ _ _ _ _ _ _ _ _ B F X N Tp hk hd1 hu nil ret rai
/-- what _law_told hands back to the law's own frame -/
def TellO (w : World) (mean : ExcName → Option Value) (mg mb : Str → Option Value) (f : Addr) (need : Nat) (vs : List Value) (Nil : Prop) (Out : Obj → Prop) (Bad : Prop) : Prop :=
  ∀ (dp un : Nat) (gd : Option (List Code)) (cn : Str) (cs : Scope) (a : Addr) (ccd : Value) (A₀ : Around) (h₀ : Heap) (L : Addr) (m : Str → Option Value) (news : List (Addr × Obj)) (s : Shared) (Q E : Value → Shared → Prop),
    Below A₀ h₀ [] h₀ → Fr h₀ L s.heap m → (hd.heap_39 w.params).In h₀ → News h₀ L s.heap news → TopM mean mg mb h₀ → cs.kind = .function → dp + need < recursionLimit → un + 8 * need < cLine →
    (∀ h' tk', Fr h₀ L h' m → News h₀ L h' news → Nil → Q .none { s with heap := h', toks := tk' }) →
    (∀ D o h' tk', Fr h₀ L h' m → News h₀ L h' ((D, o) :: news) → Out o → Q (.ref D) { s with heap := h', toks := tk' }) →
    (∀ tb h' tk', Fr h₀ L h' m → News h₀ L h' news → Bad → Q (.bytes limB.toArray tb) { s with heap := h', toks := tk' }) →
    wpAny (model PySem.Challenge.rw_on0257_01.row.prog w) (ktrTop dp un gd cn cs L a ccd [] []) (call (.ref f) vs) Q E s
local macro_rules | `(tactic| walk_at $s:str) => `(tactic| k_extra $s)
set_option maxRecDepth 100000 in
set_option maxHeartbeats 8000000 in
theorem law_told_tells (w : World) (mean : ExcName → Option Value) (mg mb : Str → Option Value) (b : Array UInt8) (tb : Tok) (below : Bool) (hb : b.size ≤ 90) : TellO w mean mg mb 157 25 [.bytes b tb, .bool below] (readV (KBw.bInts b) below = none) (OutReal (readV (KBw.bInts b) below)) (readV (KBw.bInts b) below = some none) := by
  unfold TellO
  k_fill
  intro dp un gd cn cs a ccd A₀ h₀ L m news s Q E hB hF hK hN hT hk hd1 hu hnil hret hrai
  refine wpAny_call ?_
  k_dflt (refine' code_defS0 ?k1 ?k2 ?k3 ?k4 ?k5 ?kA ?k6 ?k7 ?k8 ?k9 ?kB ?_ ?cK ?c2 ?c3 ?c4 ?c5)
  case kA => exact rfl
  case k2 => k_asm
  case k1 => k_asm
  case k3 => k_asm
  case k4 => k_asm
  case k5 => k_asm
  case k6 => k_is
  case k7 => k_is
  case k8 => ktr_room
  case k9 => exact BindsTo.of_eq rfl
  case kB => exact locs rfl
  case cK => assumption
  case c2 => exact rfl
  case c3 => exact rfl
  case c4 => exact rfl
  case c5 => decide
  intro g' L' h' FG' F' N' B' X' T' D'
  try dsimp only
  try k_lift B'
  try k_fold
  k_with_none
  k_with "call ref" => (
    (k_here; k_dflt (refine' TellM.use (read_real_tells _ _ _ _ _ _ _ ?sz) ?tB ?tF ?tX ?tN ?tT ?tk ?td ?tu ?_ ?_ ?_); (case sz => omega); (case tB => k_asm); (case tF => k_asm); (case tX => k_asm); (case tN => k_asm); (case tT => k_asm); (case tk => first | exact rfl | assumption); (case td => ktr_room); (case tu => ktr_units); k_whole) <;> first
      | (intro D9 o9 h' tk' F' N' l9 O9; obtain ⟨x9, t9, u9, hO9, ho9⟩ := O9; subst ho9)
      | (intro h' tk' F' N' O9; (have hO9 : readV _ _ = none := O9); clear O9)
      | intro e9 D9 tk9 tb9 G9 h' tk' F9 U9 R9 hb9)
  k_with "noteFrame ref" => ((k_here; k_dflt (refine' caught_P ?K ?F ?R ?U ?XB ?TB ?Dd ?T ?_ ?hk ?hlo); (case K => k_asm); (case F => assumption); (case R => assumption); (case U => assumption); (case XB => assumption); (case TB => assumption); (case Dd => assumption); (case T => exact test_name (.inl (by k_is)) (by rfl) (by rfl) (by rfl) (by decide)); (case hk => exact rfl); (case hlo => exact rfl); k_whole; intro h' g' oe9 ws9 tk' T9 F' N' hc9 hd9 hw9 B' X' P' D'; (have I9 := ps_inst (News.get N' (.head _)) hc9 hd9 hw9 (News.get N' (.tail _ (.head _)))); (try k_lift B')))
  k_with "getAttr ref" => ((k_here; k_dflt (refine' ps_get ?X ?I ?_; (case X => k_in); (case I => assumption); k_whole)))
  k_steps
  · exact hnil _ _ (by assumption) (by assumption) (by assumption)
  · exact hret _ _ _ _ (by assumption) (by assumption) ⟨_, _, _, by assumption, rfl⟩
  · exact hrai _ _ _ (by assumption) (fun p hp => (‹News h₀ _ _ (_ :: _ :: news)›) p (.tail _ (.tail _ hp))) (by assumption)
end Mine
end
section
open PySem PySem.W PyProof.Rows PySem.Calls
namespace Mine
local macro_rules | `(tactic| walk_at "no key 0") => `(tactic| skip)
abbrev TapeD (w : World) (C : Addr) (oD : Obj) (x : Int) (t : Tok) : Prop := Obj.IsDictOf (PySem.strKind PySem.Challenge.rw_on0257_01.row.prog w) oD [(Str.ofString "cells", .ref C), (Str.ofString "seed", .int x t)]
theorem back_news {h₀ h h' g : Heap} {L L' D C : Addr} {pre : List (Addr × Obj)} {oD oC oD' oC' : Obj} {m' : Str → Option Value} (N : News h₀ L h pre) (G : GSub h g (List.map (fun x => x.fst) [(D, oD), (C, oC)])) (hoD : ∀ p ∈ pre, p.1 ≠ D) (hoC : ∀ p ∈ pre, p.1 ≠ C)
    (F' : Fr g L' h' m') (N' : News h₀ L h' [(D, oD'), (C, oC')]) : News h₀ L h' (pre ++ [(D, oD'), (C, oC')]) := fun p hp => by
  rcases List.mem_append.mp hp with hp | hp
  · refine ⟨F'.keep _ _ (G _ _ (N p hp).1 fun hm => ?_), (N p hp).2⟩
    rcases List.mem_cons.mp hm with e | hm
    · exact hoD p hp e
    · exact hoC p hp (List.mem_singleton.mp hm)
  · exact N' p hp
theorem fmod_in {a b : Int} (h : 1 ≤ b) : 0 ≤ a.fmod b ∧ a.fmod b < b := by
  rw [Int.fmod_eq_emod_of_nonneg _ (by omega)]
  exact ⟨Int.emod_nonneg _ (by omega), Int.emod_lt_of_pos _ (by omega)⟩
theorem ints_pos {ws : List Value} {ns : List Int} (hI : IntsAre ws ns) (h : decide (ns = []) = false) : 0 < ws.length := by
  have := hI.length
  have h' : ns ≠ [] := of_decide_eq_false h
  have := List.length_pos_iff.mpr h'
  omega
theorem ints_room {ws : List Value} {ns : List Int} (hI : IntsAre ws ns) (h : ns.length ≤ 63) : ws.length ≤ sizeLine := by
  have := hI.length
  rw [sizeLine_eq]; omega
local macro_rules | `(tactic| walk_at $s:str) => `(tactic| k_extra $s)
set_option maxRecDepth 100000 in
set_option maxHeartbeats 8000000 in
theorem law_next_tells (w : World) (mean : ExcName → Option Value) (mg mb : Str → Option Value) (below : Int) (tb : Tok) (b1 : 1 ≤ below) (b2 : below ≤ 20) :
  ∀ (dp un : Nat) (gd : Option (List Code)) (cn : Str) (cs : Scope) (a : Addr) (ccd : Value) (cl : List (Str × Addr)) (outer : List Env) (A₀ : Around) (base h₀ : Heap) (L : Addr) (m : Str → Option Value) (pre : List (Addr × Obj)) (s : Shared) (Q E : Value → Shared → Prop) (D C : Addr) (oD : Obj) (ws : List Value) (ns : List Int) (n : Nat) (x : Int) (tx : Tok),
    Below A₀ base outer h₀ → Fr h₀ L s.heap m → (hd.heap_39 w.params).In h₀ → News h₀ L s.heap (pre ++ [(D, oD), (C, listOf ws.toArray n)]) → TopM mean mg mb h₀ → cs.kind = .function → dp + 20 < recursionLimit → un + 8 * 20 < cLine →
    TapeD w C oD x tx → IntsAre ws ns → ns.length ≤ 63 → (∀ p ∈ pre, p.1 ≠ D) → (∀ p ∈ pre, p.1 ≠ C) → @LT.lt Nat _ D C →
    (∀ r t oD' ws' ns' n' x' tx' h' tk', Fr h₀ L h' m → News h₀ L h' (pre ++ [(D, oD'), (C, listOf ws'.toArray n')]) → TapeD w C oD' x' tx' → IntsAre ws' ns' → ns'.length ≤ 63 → 0 ≤ r → r < below → Q (.int r t) { s with heap := h', toks := tk' }) →
    wpAny (model PySem.Challenge.rw_on0257_01.row.prog w) (ktrTop dp un gd cn cs L a ccd cl outer) (call (.ref 136) [.ref D, .int below tb]) Q E s := by
  k_fill
  intro dp un gd cn cs a ccd cl outer A₀ base h₀ L m pre s Q E D C oD ws ns n x tx hB hF hK hN hT hk hd1 hu hdD hI hlen hoD hoC hDC hret
  have hN2 : News h₀ L s.heap [(D, oD), (C, listOf ws.toArray n)] := hN.right
  have hNo : News h₀ L s.heap pre := fun p hp => hN p (List.mem_append_left _ hp)
  clear hN
  replace hdD : Obj.IsDictOf (PySem.strKind PySem.Challenge.rw_on0257_01.row.prog w) oD [(Str.ofString "cells", .ref C), (Str.ofString "seed", .int x tx)] := hdD
  refine wpAny_call ?_
  k_dflt (refine' code_defG ?k1 ?k2 ?k3 hN2 ?k5 ?kA ?kF ?kK ?k6 ?k7 ?k8 ?k9 ?kB ?_ ?c2 ?c3 ?c4 ?c5; (case kA => exact rfl); (case kF => exact rfl); (case kK => assumption); (case k1 => k_asm); (case k2 => k_asm); (case k3 => k_asm); (case k5 => k_asm); (case k6 => k_is); (case k7 => k_is); (case k8 => ktr_room); (case k9 => exact BindsTo.of_eq rfl); (case c5 => decide); (case kB => exact locs rfl); (case c2 => exact rfl); (case c3 => exact rfl); (case c4 => exact rfl); k_whole)
  intro g' L' h' FG' F' N' B' X' T' G9
  (try dsimp only)
  (try k_lift B')
  (try k_fold)
  k_with_none
  k_with "call builtin:list.pop" => ((k_here; k_dflt (refine' kpa_pop ?F ?N ?U ?i ?l ?z ?_; (case F => k_asm); (case N => k_asm); (case U => k_upd); (case i => with_reducible assumption); (case l => exact ints_pos (by assumption) (by assumption)); (case z => exact ints_room (by assumption) (by assumption))); (intro h' t' F' N' hI'; (try dsimp only [List.nil_append, List.cons_append] at N'))))
  k_with "compareOp NotEq ref ref" => ((k_here; (with_unfolding_all refine' ne_intsK ?k1 ?k2 ?k3 ?k4 ?k5 ?_; (case k1 => is_list); (case k2 => l_intsC); (case k3 => is_list); (case k4 => l_intsC); (case k5 => ktr_units); k_whole)))
  k_steps
  · exact hret _ _ _ _ _ _ _ _ _ _ (by assumption) (back_news hNo G9 hoD hoC (by assumption) (fun p hp => (‹News h₀ _ _ (_ :: _ :: _ :: [])›) p (.tail _ hp))) (by assumption) hI hlen (fmod_in b1).1 (fmod_in b1).2
  · refine hret _ _ _ _ _ _ _ _ _ _ (by assumption) (back_news hNo G9 hoD hoC (by assumption) (fun p hp => (‹News h₀ _ _ (_ :: _ :: _ :: [])›) p (.tail _ hp))) hdD (by assumption) ?_ (fmod_in b1).1 (fmod_in b1).2
    rw [List.length_dropLast]; omega
end Mine
end
section
open PySem PySem.W PyProof.Rows PySem.Calls
namespace Mine
set_option maxRecDepth 100000 in
set_option maxHeartbeats 8000000 in
theorem law_tape_tells (w : World) (mean : ExcName → Option Value) (mg mb : Str → Option Value) :
  ∀ (dp un : Nat) (gd : Option (List Code)) (cn : Str) (cs : Scope) (a : Addr) (ccd : Value) (cl : List (Str × Addr)) (outer : List Env) (A₀ : Around) (base h₀ : Heap) (L : Addr) (m : Str → Option Value) (s : Shared) (Q E : Value → Shared → Prop) (l : Addr) (vs : List Value) (ns : List Int),
    Below A₀ base outer h₀ → Fr h₀ L s.heap m → (hd.heap_39 w.params).In h₀ → News h₀ L s.heap [] → TopM mean mg mb h₀ → cs.kind = .function → base.IsList l vs.toArray → IntsAre vs ns → ns.length ≤ 63 → dp + 5 < recursionLimit → un + 8 * 5 < cLine →
    (∀ D C oD ws ns' n x t h' tk', Fr h₀ L h' m → News h₀ L h' [(D, oD), (C, listOf ws.toArray n)] → TapeD w C oD x t → IntsAre ws ns' → ns'.length ≤ 63 → @LT.lt Nat _ D C → Q (.ref D) { s with heap := h', toks := tk' }) →
    wpAny (model PySem.Challenge.rw_on0257_01.row.prog w) (ktrTop dp un gd cn cs L a ccd cl outer) (call (.ref 129) [.ref l]) Q E s := by
  k_fill
  intro dp un gd cn cs a ccd cl outer A₀ base h₀ L m s Q E l vs ns hB hF hK hN hT hk hl hI hlen hd1 hu hret
  have hlen2 : ns.length < 2 ^ 62 := by omega
  refine wpAny_call ?_
  k_dflt cell_enter
  k_steps
  refine hret _ _ _ _ _ _ _ _ _ _ (by assumption) (fun p hp => (‹News h₀ _ _ (_ :: _ :: _)›) p (by
    rcases List.mem_cons.mp hp with rfl | hp
    · exact .tail _ (.head _)
    · rw [List.mem_singleton.mp hp]; exact .head _)) (by assumption) (by assumption) ?_ (‹_ < _ ∧ _ < _ ∧ _ < _ ∧ _ < _›).1
  rw [List.length_reverse, List.length_map, List.length_take]
  omega
end Mine
end
section
open PySem PySem.W PyProof.Rows PySem.Calls
namespace Mine
def dueN (n t : Int) (below : Bool) : Option Int :=
  if n = 0 ∨ t < -90 then some 0 else if 90 < t then none else
  let m := if 0 ≤ t then n * 10 ^ t.toNat else Int.fdiv (2 * n + 10 ^ (-t).toNat) (2 * 10 ^ (-t).toNat)
  if 10 ^ Int.toNat 21 < m then none else some (if below = true then 0 - m else m)
def dueV (w r : List Int) (ten : Int) (below : Bool) : Option Int := dueN (cntV (w ++ r)) (ten - r.length + 6) below
theorem due_mul {n t : Int} (h0 : 0 ≤ n) (h1 : n < 10 ^ 100) (ht : ¬ 90 < t) : IntMulOk n (10 ^ t.toNat) := by
  refine IntMulOk.of_bits (Nat.le_trans (bits_num h1 (by omega)) (by decide)) (Nat.le_trans (bits_le (k := 300) ?_) (by decide))
  rw [ten_cast, Int.natAbs_natCast]
  exact Nat.lt_of_le_of_lt (Nat.pow_le_pow_right (by decide) (show t.toNat ≤ 90 by omega)) (by decide)
theorem due_ne (k : Nat) : (2 : Int) * 10 ^ k ≠ 0 := by have := div_b1 k; omega
theorem due_log {t : Int} (ht : ¬ t < -90) : ((2 : Int) * 10 ^ (-t).toNat).natAbs.log2 < 9000 := by
  rw [ten_cast]
  have e : ((2 : Int) * ((10 ^ (-t).toNat : Nat) : Int)).natAbs = 2 * 10 ^ (-t).toNat := by
    have := Int.natAbs_mul 2 ((10 ^ (-t).toNat : Nat) : Int)
    rw [this, Int.natAbs_natCast]; rfl
  rw [e]
  have hp : 0 < 10 ^ (-t).toNat := Nat.pow_pos (by decide)
  refine (Nat.log2_lt (by omega)).mpr (Nat.lt_of_lt_of_le (m := 2 ^ 400) ?_ (Nat.pow_le_pow_right (by decide) (by decide)))
  have : 10 ^ (-t).toNat ≤ 10 ^ 90 := Nat.pow_le_pow_right (by decide) (by omega)
  have : (2 : Nat) * 10 ^ 90 < 2 ^ 400 := by decide
  omega
section
variable {n t x : Int} {below : Bool} {k : Tok}
theorem due_z1 (h : n = 0) : OutOpt (dueN n t below) (.int 0 k) := .inr ⟨_, _, by unfold dueN; rw [if_pos (.inl h)], rfl⟩
theorem due_z2 (h : t < -90) : OutOpt (dueN n t below) (.int 0 k) := .inr ⟨_, _, by unfold dueN; rw [if_pos (.inr h)], rfl⟩
theorem due_far (h : n ≠ 0) (h1 : ¬ t < -90) (h2 : 90 < t) : OutOpt (dueN n t below) .none := .inl ⟨by unfold dueN; rw [if_neg (not_or.mpr ⟨h, h1⟩), if_pos h2], rfl⟩
theorem due_upn (h : n ≠ 0) (h1 : ¬ t < -90) (h2 : ¬ 90 < t) (h3 : 0 ≤ t) (h4 : 10 ^ Int.toNat 21 < n * 10 ^ t.toNat) : OutOpt (dueN n t below) .none := .inl ⟨by unfold dueN; rw [if_neg (not_or.mpr ⟨h, h1⟩), if_neg h2]; dsimp only; rw [if_pos h3, if_pos h4], rfl⟩
theorem due_up (h : n ≠ 0) (h1 : ¬ t < -90) (h2 : ¬ 90 < t) (h3 : 0 ≤ t) (h4 : ¬ 10 ^ Int.toNat 21 < n * 10 ^ t.toNat) (hx : (if below = true then 0 - n * 10 ^ t.toNat else n * 10 ^ t.toNat) = x) : OutOpt (dueN n t below) (.int x k) := .inr ⟨_, _, by unfold dueN; rw [if_neg (not_or.mpr ⟨h, h1⟩), if_neg h2]; dsimp only; rw [if_pos h3, if_neg h4, hx], rfl⟩
theorem due_dnn (h : n ≠ 0) (h1 : ¬ t < -90) (h2 : ¬ 90 < t) (h3 : ¬ 0 ≤ t) (h4 : 10 ^ Int.toNat 21 < (2 * n + 10 ^ (-t).toNat).fdiv (2 * 10 ^ (-t).toNat)) : OutOpt (dueN n t below) .none := .inl ⟨by unfold dueN; rw [if_neg (not_or.mpr ⟨h, h1⟩), if_neg h2]; dsimp only; rw [if_neg h3, if_pos h4], rfl⟩
theorem due_dn (h : n ≠ 0) (h1 : ¬ t < -90) (h2 : ¬ 90 < t) (h3 : ¬ 0 ≤ t) (h4 : ¬ 10 ^ Int.toNat 21 < (2 * n + 10 ^ (-t).toNat).fdiv (2 * 10 ^ (-t).toNat)) (hx : (if below = true then 0 - (2 * n + 10 ^ (-t).toNat).fdiv (2 * 10 ^ (-t).toNat) else (2 * n + 10 ^ (-t).toNat).fdiv (2 * 10 ^ (-t).toNat)) = x) : OutOpt (dueN n t below) (.int x k) := .inr ⟨_, _, by unfold dueN; rw [if_neg (not_or.mpr ⟨h, h1⟩), if_neg h2]; dsimp only; rw [if_neg h3, if_neg h4, hx], rfl⟩
end
local macro_rules | `(tactic| walk_at $s:str) => `(tactic| k_extra $s)
set_option maxRecDepth 100000 in
set_option maxHeartbeats 8000000 in
theorem law_due_tells (w : World) (mean : ExcName → Option Value) (mg mb : Str → Option Value) (b r : Array UInt8) (tb tr tt : Tok) (ten : Int) (below : Bool) (hb : b.size ≤ 40) (hr : r.size ≤ 40) (h0 : 0 ≤ cntV (KBw.bInts (b ++ r))) (h1 : cntV (KBw.bInts (b ++ r)) < 10 ^ 100) (h3 : ten ≤ 10000) (h4 : -10000 ≤ ten) :
    Tell w mean mg mb 150 8 [.bytes b tb, .bytes r tr, .int ten tt, .bool below] (OutOpt (dueN (cntV (KBw.bInts (b ++ r))) (ten - r.size + 6) below)) := by
  unfold Tell
  k_fill
  intro dp un gd cn cs a ccd cl outer A₀ base h₀ L m news s Q E hB hF hK hN hT hk hd1 hu hret
  refine wpAny_call ?_
  k_dflt cell_enter
  k_with_none
  k_with "binaryOp Add bytes bytes" => ((k_here; (with_reducible show wpAny _ _ (binaryOp Operator.Add (Value.bytes _ _) (Value.bytes _ _)) _ _ _); (refine KBy.add_bytes (by (try simp only [List.size_toArray, List.length_nil]); omega) ?_); intro t9 tk'))
  k_with "call ref" => ((k_here; k_dflt (refine' Tell.use (law_count_tells _ _ _ _ _ _ ?sz) ?tB ?tF ?tX ?tN ?tT ?tk ?td ?tu ?_); (case sz => rw [Array.size_append]; omega); (case tB => k_asm); (case tF => k_asm); (case tX => k_asm); (case tN => k_asm); (case tT => k_asm); (case tk => first | exact rfl | assumption); (case td => ktr_room); (case tu => ktr_units); k_whole; intro r9 h' tk' F' N' O9; (try k_sweep); obtain ⟨t9, hr9⟩ := O9; subst hr9))
  k_with "binaryOp Mult int int" => ((k_here; (fail_if_success (with_reducible show wpAny _ _ (binaryOp _ (Value.int 2 _) _) _ _ _)); (with_reducible refine mul_int ?_ ?hm9); (case hm9 => exact due_mul (by assumption) (by assumption) (by omega))))
  k_with "binaryOp FloorDiv int int" => ((k_here; (with_reducible refine floordiv_int ?ne9 ?_ (Or.inl (PyProof.noPylong_of_log2 ?lg9))); (case ne9 => exact due_ne _); (case lg9 => exact due_log (by omega))))
  k_steps
  all_goals (refine' hret _ _ _ ?f9 ?n9 ?_; (case f9 => assumption); (case n9 => first | assumption | exact fun p hp => by exact (‹News h₀ _ _ (_ :: news)›) p (.tail _ hp)))
  all_goals first
    | exact due_z1 (by assumption)
    | exact due_z2 (by assumption)
    | exact due_far (by assumption) (by assumption) (by assumption)
    | exact due_upn (by assumption) (by assumption) (by assumption) (by assumption) (by assumption)
    | exact due_dnn (by assumption) (by assumption) (by assumption) (by assumption) (by assumption)
    | (rename below = _ => hb9; rw [hb9]; first
      | exact due_up (by assumption) (by assumption) (by assumption) (by assumption) (by assumption) (by rfl)
      | exact due_dn (by assumption) (by assumption) (by assumption) (by assumption) (by assumption) (by rfl))
end Mine
end
section
open PySem PySem.W PyProof.Rows PySem.Calls
namespace Mine
local macro_rules | `(tactic| walk_at "no key 0") => `(tactic| skip)
theorem next_use {w : World} {mean : ExcName → Option Value} {mg mb : Str → Option Value} {below : Int} {tb : Tok} (b1 : 1 ≤ below) (b2 : below ≤ 20) (pre : List (Addr × Obj))
    {dp un : Nat} {gd : Option (List Code)} {cn : Str} {cs : Scope} {a : Addr} {ccd : Value} {cl : List (Str × Addr)} {outer : List Env} {A₀ : Around} {base h₀ : Heap} {L : Addr} {m : Str → Option Value} {s : Shared} {Q E : Value → Shared → Prop} {D C : Addr} {oD : Obj} {ws : List Value} {ns : List Int} {n : Nat} {x : Int} {tx : Tok}
    (B : Below A₀ base outer h₀) (F : Fr h₀ L s.heap m) (X : (hd.heap_39 w.params).In h₀) (N : News h₀ L s.heap (pre ++ [(D, oD), (C, listOf ws.toArray n)])) (Tp : TopM mean mg mb h₀) (hk : cs.kind = .function) (hd1 : dp + 20 < recursionLimit) (hu : un + 8 * 20 < cLine)
    (hT : TapeD w C oD x tx) (hI : IntsAre ws ns) (hl : ns.length ≤ 63) (hoD : ∀ p ∈ pre, p.1 ≠ D) (hoC : ∀ p ∈ pre, p.1 ≠ C) (hDC : @LT.lt Nat _ D C)
    (ret : ∀ r t oD' ws' ns' n' x' tx' h' tk', Fr h₀ L h' m → News h₀ L h' (pre ++ [(D, oD'), (C, listOf ws'.toArray n')]) → TapeD w C oD' x' tx' → IntsAre ws' ns' → ns'.length ≤ 63 → 0 ≤ r → r < below → Q (.int r t) { s with heap := h', toks := tk' }) :
    wpAny (model PySem.Challenge.rw_on0257_01.row.prog w) (ktrTop dp un gd cn cs L a ccd cl outer) (call (.ref 136) [.ref D, .int below tb]) Q E s :=
  law_next_tells w mean mg mb below tb b1 b2 _ _ _ _ _ _ _ _ _ _ _ _ _ _ pre _ _ _ _ _ _ _ _ _ _ _ B F X N Tp hk hd1 hu hT hI hl hoD hoC hDC ret
theorem item_any {prog : Program} {w : World} {A : Around} {E : Value → Shared → Prop} {s : Shared} {value slice : PySem.Expr} {l : Addr} {vs : List Value} {k : Int} {u : Tok} {Q : Value → Shared → Prop}
    (hl : s.heap.IsList l vs.toArray) (h0 : 0 ≤ k) (h1 : k < vs.length) (hz : vs.length ≤ 1000) (h : ∀ v ∈ vs, Q v s)
    (hs : subscripted slice false (.ref l) (.int k u) = operate [.ref l, .int k u] (getItem (.ref l) (.int k u)) := by with_unfolding_all rfl) :
    wpAny (model prog w) A (subscriptTail value slice (.ref l) (.int k u)) Q E s := by
  have hk : k.toNat < vs.length := by omega
  exact tail_any hl.typeIs slot_list_getitem.lookup (wpAny_getItem_list hl h0 (by omega) (x := vs[k.toNat]) (by simp [hk]) (h _ (List.getElem_mem hk))) hs
noncomputable def bytesAll : List Value → Option (List (List Int))
  | [] => some []
  | .bytes b _ :: r => (bytesAll r).map (KBw.bInts b :: ·)
  | _ => none
theorem bytes_mem : ∀ {vs : List Value} {S : List (List Int)} {v : Value}, v ∈ vs → bytesAll vs = some S → ∃ z t, v = .bytes z t ∧ KBw.bInts z ∈ S
  | .bytes b t :: r, S, v, h, e => by
    unfold bytesAll at e
    obtain ⟨S', e', rfl⟩ := Option.map_eq_some_iff.mp e
    rcases List.mem_cons.mp h with rfl | h
    · exact ⟨b, t, rfl, .head _⟩
    · obtain ⟨z, u, hz, hm⟩ := bytes_mem h e'
      exact ⟨z, u, hz, .tail _ hm⟩
def oddP (w : List Int) : List Int := if w = [] then [52] else w
def oddL (w r : List Int) : List (List Int) := [oddP w, [46], [], [101, 51], [46, 101, 51], oddP w ++ [46] ++ r ++ [46], oddP w ++ [46, 49, 46, 50], oddP w ++ [101], oddP w ++ [101, 43], oddP w ++ [69, 45], oddP w ++ [101, 49, 46, 53], oddP w ++ [101, 49, 101, 50], oddP w ++ [46, 120],
  [45] ++ oddP w ++ [46, 53], [43] ++ oddP w ++ [46, 53], oddP w ++ [46, 32, 53], oddP w ++ [101, 45, 45, 49]]
local macro_rules | `(tactic| walk_at $s:str) => `(tactic| k_extra $s)
set_option maxRecDepth 100000 in
set_option maxHeartbeats 8000000 in
theorem law_odd_tells (w : World) (mean : ExcName → Option Value) (mg mb : Str → Option Value) (b r : Array UInt8) (tb tr : Tok) (hb : b.size ≤ 40) (hr : r.size ≤ 40) :
  ∀ (dp un : Nat) (gd : Option (List Code)) (cn : Str) (cs : Scope) (a : Addr) (ccd : Value) (cl : List (Str × Addr)) (outer : List Env) (A₀ : Around) (base h₀ : Heap) (L : Addr) (m : Str → Option Value) (s : Shared) (Q E : Value → Shared → Prop) (D C : Addr) (oD : Obj) (ws : List Value) (ns : List Int) (n : Nat) (x : Int) (tx : Tok),
    Below A₀ base outer h₀ → Fr h₀ L s.heap m → (hd.heap_39 w.params).In h₀ → News h₀ L s.heap [(D, oD), (C, listOf ws.toArray n)] → TopM mean mg mb h₀ → cs.kind = .function → dp + 30 < recursionLimit → un + 8 * 30 < cLine →
    TapeD w C oD x tx → IntsAre ws ns → ns.length ≤ 63 → @LT.lt Nat _ D C →
    (∀ z t h' tk', Fr h₀ L h' m → News h₀ L h' [] → KBw.bInts z ∈ oddL (KBw.bInts b) (KBw.bInts r) → Q (.bytes z t) { s with heap := h', toks := tk' }) →
    wpAny (model PySem.Challenge.rw_on0257_01.row.prog w) (ktrTop dp un gd cn cs L a ccd cl outer) (call (.ref 164) [.ref D, .bytes b tb, .bytes r tr]) Q E s := by
  k_fill
  intro dp un gd cn cs a ccd cl outer A₀ base h₀ L m s Q E D C oD ws ns n x tx hB hF hK hN hT hk hd1 hu hdD hI hlen hDC hret
  refine wpAny_call ?_
  k_dflt cell_enter
  k_with_none
  k_with "binaryOp Add bytes bytes" => ((k_here; (with_reducible show wpAny _ _ (binaryOp Operator.Add (Value.bytes _ _) (Value.bytes _ _)) _ _ _); (refine KBy.add_bytes (by (try simp only [Array.size_append, List.size_toArray, List.length_nil, List.length_cons]); omega) ?_); intro t9 tk'))
  k_with "compareOp NotEq bytes bytes" => ((k_here; (refine ne_bytes_ints ?_ ?_) <;> intro hM9))
  k_with "call ref" => (
    ((with_reducible show wpAny _ _ (PySem.call _ [Value.ref _, Value.int _ _]) _ _ _); k_here; k_dflt (first
      | (refine' next_use ?b1 ?b2 [] ?tB ?tF ?tX ?tN ?tT ?tk ?td ?tu ?n1 ?n2 ?n3 ?n4 ?n5 ?n6 ?_; (case tN => assumption))
      | (refine' next_use ?b1 ?b2 [_] ?tB ?tF ?tX ?tN ?tT ?tk ?td ?tu ?n1 ?n2 ?n3 ?n4 ?n5 ?n6 ?_; (case tN => assumption))
      | (refine' next_use ?b1 ?b2 [_, _] ?tB ?tF ?tX ?tN ?tT ?tk ?td ?tu ?n1 ?n2 ?n3 ?n4 ?n5 ?n6 ?_; (case tN => assumption))
      | (refine' next_use ?b1 ?b2 [_, _, _] ?tB ?tF ?tX ?tN ?tT ?tk ?td ?tu ?n1 ?n2 ?n3 ?n4 ?n5 ?n6 ?_; (case tN => assumption))
      | (refine' next_use ?b1 ?b2 [_, _, _, _] ?tB ?tF ?tX ?tN ?tT ?tk ?td ?tu ?n1 ?n2 ?n3 ?n4 ?n5 ?n6 ?_; (case tN => assumption))); (case b1 => decide); (case b2 => decide); (case tB => k_asm); (case tF => k_asm); (case tX => k_asm); (case tT => k_asm); (case tk => first | exact rfl | assumption); (case td => ktr_room); (case tu => ktr_units); (case n1 => assumption); (case n2 => assumption); (case n3 => assumption); (case n4 => k_all); (case n5 => k_all); (case n6 => assumption); k_whole; intro r9 t9 oD9 ws9 ns9 n9 x9 tx9 h' tk' F' N' hT9 hI9 hl9 hr9 hr8; (try dsimp only [List.cons_append, List.nil_append] at N')))
  k_with "subscriptTail" => ((k_here; (with_reducible show wpAny _ _ (subscriptTail _ _ (Value.ref _) (Value.int _ _)) _ _ _); (with_unfolding_all refine' item_any ?k1 ?k2 ?k3 ?k4 ?_ ?k5); (case k1 => exact News.isList (by k_asm) (by k_mem)); (case k2 => assumption); (case k3 => assumption); (case k4 => exact Nat.le_of_ble_eq_true rfl); (case k5 => with_unfolding_all rfl); k_whole; intro v9 hv9))
  k_steps
  · obtain ⟨z9, u9, hz9, hm9⟩ := bytes_mem (by assumption) (by rfl)
    subst hz9
    refine hret _ _ _ _ (by assumption) (fun p hp => nomatch hp) ?_
    simp only [ints_append] at hm9
    unfold oddL oddP
    rw [if_pos (show KBw.bInts b = [] by assumption)]
    exact hm9
  · obtain ⟨z9, u9, hz9, hm9⟩ := bytes_mem (by assumption) (by rfl)
    subst hz9
    refine hret _ _ _ _ (by assumption) (fun p hp => nomatch hp) ?_
    simp only [ints_append] at hm9
    unfold oddL oddP
    rw [if_neg (show ¬ KBw.bInts b = [] by assumption)]
    exact hm9
end Mine
end
section
open PySem PySem.W PyProof.Rows PySem.Calls
namespace Mine
abbrev wholeS : List (List Int) := [KBw.bInts #[], KBw.bInts #[48], KBw.bInts #[55], KBw.bInts #[49, 50], KBw.bInts #[48, 48, 51, 48, 53], KBw.bInts #[57, 57, 57, 57, 57, 57, 57, 57, 57, 57, 57, 57, 57, 57, 57], KBw.bInts #[49, 48, 48, 48, 48, 48, 48, 48, 48, 48, 48, 48, 48, 48, 48, 48],
  KBw.bInts #[49, 50, 51, 52, 53, 54, 55, 56, 57, 48, 49, 50, 51, 52, 53, 54, 55, 56, 57, 48, 49, 50, 51, 52, 53, 54, 55, 56, 57, 48]]
abbrev restS : List (List Int) := [KBw.bInts #[], KBw.bInts #[48], KBw.bInts #[53], KBw.bInts #[48, 48, 48, 48, 48, 48, 53], KBw.bInts #[49, 50, 51, 52, 53, 54, 53], KBw.bInts #[57, 57, 57, 57, 57, 57, 52, 57], KBw.bInts #[48, 48, 48, 48, 48, 48, 52, 57],
  KBw.bInts #[48, 48, 48, 48, 48, 48, 48, 48, 48, 48, 48, 48, 48, 48, 48, 48, 48, 48, 48, 48, 48, 48, 48, 48, 48, 48, 48, 48, 48, 48, 57]]
abbrev powS : List (List Int × Int) := [(KBw.bInts #[], 0), (KBw.bInts #[48], 0), (KBw.bInts #[51], 3), (KBw.bInts #[45, 54], -6), (KBw.bInts #[43, 50], 2), (KBw.bInts #[45, 55], -7), (KBw.bInts #[49, 53], 15), (KBw.bInts #[45, 48], 0),
  (KBw.bInts #[57, 57, 57, 57, 57, 57, 57, 57, 57, 57, 57, 57, 57, 57, 57, 57, 57, 57, 57, 57, 57, 57, 57, 57, 57, 57], 9999), (KBw.bInts #[45, 57, 57, 57, 57, 57, 57, 57, 57, 57, 57, 57, 57, 57, 57, 57, 57, 57, 57, 57, 57, 57, 57, 57, 57, 57, 57], -9999), (KBw.bInts #[45, 50, 49], -21), (KBw.bInts #[43, 48, 55], 7)]

abbrev wholeT : List (List Int) := [51] :: wholeS
def dueW (w r : List Int) (k : Int) (below : Bool) : Option Int := dueN (cntV (w ++ r)) (k - r.length + 6) below
noncomputable def okV (o : List Int) (w r : List Int) (k : Int) : Bool := decide (readV o true = some (dueW w r k true)) && decide (readV o false = some (dueW w r k false))
theorem okV_at {o w r : List Int} {k : Int} (h : okV o w r k = true) (b : Bool) : readV o b = some (dueW w r k b) := by
  unfold okV at h
  rw [Bool.and_eq_true, decide_eq_true_eq, decide_eq_true_eq] at h
  cases b
  · exact h.2
  · exact h.1
noncomputable def okP (w r : List Int) (q : List Int × Int) : Bool :=
  (w.isEmpty && r.isEmpty) || (if q.1 = [] then okV (w ++ [46] ++ r) w r q.2 else okV (w ++ [46] ++ r ++ ([101] ++ q.1)) w r q.2 && okV (w ++ [46] ++ r ++ ([69] ++ q.1)) w r q.2)
noncomputable def okB (w : List Int) (q : List Int × Int) : Bool :=
  w.isEmpty || q.1.isEmpty || (okV (w ++ ([101] ++ q.1)) w [] q.2 && okV (w ++ ([69] ++ q.1)) w [] q.2)
noncomputable def okO (w r : List Int) : Bool := (oddL w r).all fun o => decide (readV o true = none) && decide (readV o false = none)
theorem okP0 : (restS.all fun r => powS.all fun q => okP (wholeT[0]) r q) = true := by decide +kernel
theorem okP1 : (restS.all fun r => powS.all fun q => okP (wholeT[1]) r q) = true := by decide +kernel
theorem okP2 : (restS.all fun r => powS.all fun q => okP (wholeT[2]) r q) = true := by decide +kernel
theorem okP3 : (restS.all fun r => powS.all fun q => okP (wholeT[3]) r q) = true := by decide +kernel
theorem okP4 : (restS.all fun r => powS.all fun q => okP (wholeT[4]) r q) = true := by decide +kernel
theorem okP5 : (restS.all fun r => powS.all fun q => okP (wholeT[5]) r q) = true := by decide +kernel
theorem okP6 : (restS.all fun r => powS.all fun q => okP (wholeT[6]) r q) = true := by decide +kernel
theorem okP7 : (restS.all fun r => powS.all fun q => okP (wholeT[7]) r q) = true := by decide +kernel
theorem okP8 : (restS.all fun r => powS.all fun q => okP (wholeT[8]) r q) = true := by decide +kernel
theorem okPs : (wholeT.all fun w => restS.all fun r => powS.all fun q => okP w r q) = true := by
  show ((restS.all fun r => powS.all fun q => okP (wholeT[0]) r q) && ((restS.all fun r => powS.all fun q => okP (wholeT[1]) r q) && ((restS.all fun r => powS.all fun q => okP (wholeT[2]) r q) && ((restS.all fun r => powS.all fun q => okP (wholeT[3]) r q) && ((restS.all fun r => powS.all fun q => okP (wholeT[4]) r q) && ((restS.all fun r => powS.all fun q => okP (wholeT[5]) r q) && ((restS.all fun r => powS.all fun q => okP (wholeT[6]) r q) && ((restS.all fun r => powS.all fun q => okP (wholeT[7]) r q) && ((restS.all fun r => powS.all fun q => okP (wholeT[8]) r q) && true))))))))) = true
  rw [okP0, okP1, okP2, okP3, okP4, okP5, okP6, okP7, okP8]; rfl
theorem okBs : (wholeT.all fun w => powS.all fun q => okB w q) = true := by decide +kernel
theorem okOs : (wholeT.all fun w => restS.all fun r => okO w r) = true := by decide +kernel
section
variable {w r p c o : List Int} {k : Int} {b : Bool}
theorem at_dot (hw : w ∈ wholeT) (hr : r ∈ restS) (hp : (p, k) ∈ powS) (hn : ¬ (w = [] ∧ r = [])) (h : p = []) : readV (w ++ [46] ++ r) b = some (dueW w r k b) := by
  have := List.all_eq_true.mp (List.all_eq_true.mp (List.all_eq_true.mp okPs w hw) r hr) (p, k) hp
  unfold okP at this
  rw [Bool.or_eq_true, Bool.and_eq_true, List.isEmpty_iff, List.isEmpty_iff] at this
  have := this.resolve_left hn
  rw [if_pos h] at this
  exact okV_at this b
theorem at_exp (hw : w ∈ wholeT) (hr : r ∈ restS) (hp : (p, k) ∈ powS) (hc : c ∈ [[101], [(69 : Int)]]) (hn : ¬ (w = [] ∧ r = [])) (h : ¬ p = []) : readV (w ++ [46] ++ r ++ (c ++ p)) b = some (dueW w r k b) := by
  have := List.all_eq_true.mp (List.all_eq_true.mp (List.all_eq_true.mp okPs w hw) r hr) (p, k) hp
  unfold okP at this
  rw [Bool.or_eq_true, Bool.and_eq_true, List.isEmpty_iff, List.isEmpty_iff] at this
  have := this.resolve_left hn
  rw [if_neg h, Bool.and_eq_true] at this
  rcases List.mem_cons.mp hc with rfl | hc
  · exact okV_at this.1 b
  · rw [List.mem_singleton.mp hc]; exact okV_at this.2 b
theorem at_bare (hw : w ∈ wholeT) (hr : r = []) (hp : (p, k) ∈ powS) (hc : c ∈ [[101], [(69 : Int)]]) (hn : ¬ (w = [] ∧ r = [])) (h : ¬ p = []) : readV (w ++ (c ++ p)) b = some (dueW w r k b) := by
  subst hr
  have := List.all_eq_true.mp (List.all_eq_true.mp okBs w hw) (p, k) hp
  unfold okB at this
  rw [Bool.or_eq_true, Bool.or_eq_true, List.isEmpty_iff, List.isEmpty_iff, or_assoc] at this
  have := (this.resolve_left fun e => hn ⟨e, rfl⟩).resolve_left h
  rw [Bool.and_eq_true] at this
  rcases List.mem_cons.mp hc with rfl | hc
  · exact okV_at this.1 b
  · rw [List.mem_singleton.mp hc]; exact okV_at this.2 b
theorem at_odd (hw : w ∈ wholeT) (hr : r ∈ restS) (ho : o ∈ oddL w r) : readV o b = none := by
  have := List.all_eq_true.mp (List.all_eq_true.mp okOs w hw) r hr
  unfold okO at this
  have := List.all_eq_true.mp this o ho
  rw [Bool.and_eq_true, decide_eq_true_eq, decide_eq_true_eq] at this
  cases b
  · exact this.2
  · exact this.1
end
theorem told1 : readV (KBw.bInts #[48, 46, 48, 48, 48, 48, 48, 48, 53]) false = some (some 1) := by decide +kernel
theorem told2 : readV (KBw.bInts #[49, 46, 48, 48, 48, 48, 48, 49, 53]) true = some (some (-1000002)) := by decide +kernel
theorem told3 : readV (KBw.bInts #[49, 101, 49, 53]) false = some (some (10 ^ 21)) := by decide +kernel
theorem told4 : readV (KBw.bInts #[49, 48, 48, 48, 48, 48, 48, 48, 48, 48, 48, 48, 48, 48, 48, 48, 46, 48, 48, 48, 48, 48, 49]) true = some none := by decide +kernel
end Mine
end
section
open PySem PySem.W PyProof.Rows PySem.Calls
namespace Mine
abbrev realObj (x : Int) (u t : Tok) : Obj := { cls := .type "tuple", data := .seq #[.str "real" u, .int x t] }
section
variable {w : World} {mean : ExcName → Option Value} {mg mb : Str → Option Value}
    {dp un : Nat} {gd : Option (List Code)} {cn : Str} {cs : Scope} {a : Addr} {ccd : Value} {A₀ : Around} {h₀ : Heap} {L : Addr} {m : Str → Option Value} {news : List (Addr × Obj)} {s : Shared} {Q E : Value → Shared → Prop} {b : Array UInt8} {tb : Tok} {below : Bool} {x : Int}
theorem told_some (hb : b.size ≤ 90) (hv : readV (KBw.bInts b) below = some (some x))
    (B : Below A₀ h₀ [] h₀) (F : Fr h₀ L s.heap m) (X : (hd.heap_39 w.params).In h₀) (N : News h₀ L s.heap news) (Tp : TopM mean mg mb h₀) (hk : cs.kind = .function) (hd1 : dp + 25 < recursionLimit) (hu : un + 8 * 25 < cLine)
    (ret : ∀ D u t h' tk', Fr h₀ L h' m → News h₀ L h' ((D, realObj x u t) :: news) → Q (.ref D) { s with heap := h', toks := tk' }) :
    wpAny (model PySem.Challenge.rw_on0257_01.row.prog w) (ktrTop dp un gd cn cs L a ccd [] []) (call (.ref 157) [.bytes b tb, .bool below]) Q E s :=
  law_told_tells w mean mg mb b tb below hb dp un gd cn cs a ccd A₀ h₀ L m news s Q E B F X N Tp hk hd1 hu
    (fun _ _ _ _ n => by rw [hv] at n; cases n)
    (fun D o h' tk' F' N' O => by obtain ⟨x', t, u, e, rfl⟩ := O; rw [hv] at e; cases e; exact ret D u t h' tk' F' N')
    (fun _ _ _ _ _ n => by rw [hv] at n; cases n)
theorem told_lim (hb : b.size ≤ 90) (hv : readV (KBw.bInts b) below = some none)
    (B : Below A₀ h₀ [] h₀) (F : Fr h₀ L s.heap m) (X : (hd.heap_39 w.params).In h₀) (N : News h₀ L s.heap news) (Tp : TopM mean mg mb h₀) (hk : cs.kind = .function) (hd1 : dp + 25 < recursionLimit) (hu : un + 8 * 25 < cLine)
    (ret : ∀ t h' tk', Fr h₀ L h' m → News h₀ L h' news → Q (.bytes limB.toArray t) { s with heap := h', toks := tk' }) :
    wpAny (model PySem.Challenge.rw_on0257_01.row.prog w) (ktrTop dp un gd cn cs L a ccd [] []) (call (.ref 157) [.bytes b tb, .bool below]) Q E s :=
  law_told_tells w mean mg mb b tb below hb dp un gd cn cs a ccd A₀ h₀ L m news s Q E B F X N Tp hk hd1 hu
    (fun _ _ _ _ n => by rw [hv] at n; cases n)
    (fun _ _ _ _ _ _ O => by obtain ⟨_, _, _, e, _⟩ := O; rw [hv] at e; cases e)
    (fun t h' tk' F' N' _ => ret t h' tk' F' N')
theorem told_nil (hb : b.size ≤ 90) (hv : readV (KBw.bInts b) below = none)
    (B : Below A₀ h₀ [] h₀) (F : Fr h₀ L s.heap m) (X : (hd.heap_39 w.params).In h₀) (N : News h₀ L s.heap news) (Tp : TopM mean mg mb h₀) (hk : cs.kind = .function) (hd1 : dp + 25 < recursionLimit) (hu : un + 8 * 25 < cLine)
    (ret : ∀ h' tk', Fr h₀ L h' m → News h₀ L h' news → Q .none { s with heap := h', toks := tk' }) :
    wpAny (model PySem.Challenge.rw_on0257_01.row.prog w) (ktrTop dp un gd cn cs L a ccd [] []) (call (.ref 157) [.bytes b tb, .bool below]) Q E s :=
  law_told_tells w mean mg mb b tb below hb dp un gd cn cs a ccd A₀ h₀ L m news s Q E B F X N Tp hk hd1 hu
    (fun h' tk' F' N' _ => ret h' tk' F' N')
    (fun _ _ _ _ _ _ O => by obtain ⟨_, _, _, e, _⟩ := O; rw [hv] at e; cases e)
    (fun _ _ _ _ _ n => by rw [hv] at n; cases n)
end
theorem whole_size {z : Array UInt8} (h : KBw.bInts z ∈ wholeT) : z.size ≤ 30 := by
  rw [← KBw.ints_length]
  exact (show ∀ l ∈ wholeT, l.length ≤ 30 by decide +kernel) _ h
theorem rest_size {z : Array UInt8} (h : KBw.bInts z ∈ restS) : z.size ≤ 31 := by
  rw [← KBw.ints_length]
  exact (show ∀ l ∈ restS, l.length ≤ 31 by decide +kernel) _ h
theorem pow_size {z : Array UInt8} {k : Int} (h : (KBw.bInts z, k) ∈ powS) : z.size ≤ 27 := by
  rw [← KBw.ints_length]
  exact (show ∀ q ∈ powS, q.1.length ≤ 27 by decide +kernel) _ h
theorem pow_tens {z : List Int} {k : Int} (h : (z, k) ∈ powS) : -10000 ≤ k ∧ k ≤ 10000 :=
  (show ∀ q ∈ powS, -10000 ≤ q.2 ∧ q.2 ≤ 10000 by decide +kernel) _ h
theorem cnt_bound {w r : List Int} (hw : w ∈ wholeT) (hr : r ∈ restS) : 0 ≤ cntV (w ++ r) ∧ cntV (w ++ r) < 10 ^ 100 :=
  (show ∀ w ∈ wholeT, ∀ r ∈ restS, 0 ≤ cntV (w ++ r) ∧ cntV (w ++ r) < 10 ^ 100 by decide +kernel) _ hw _ hr
theorem let_size {z : Array UInt8} (h : KBw.bInts z ∈ [[101], [(69 : Int)]]) : z.size = 1 := by
  rw [← KBw.ints_length]
  exact (show ∀ l ∈ [[101], [(69 : Int)]], l.length = 1 by decide) _ h
end Mine
end
section
open PySem PySem.W PyProof.Rows PySem.Calls
namespace Mine
abbrev letS : List (List Int) := [[101], [69]]
def CutB (h₀ : Heap) (L : Addr) (m : Str → Option Value) (news : List (Addr × Obj)) (P : Array UInt8 → Prop) (s : Shared) : Value → Shared → Prop :=
  fun v s' => ∃ z t h' tk', v = .bytes z t ∧ s' = { s with heap := h', toks := tk' } ∧ Fr h₀ L h' m ∧ News h₀ L h' news ∧ P z
def CutF (h₀ : Heap) (L : Addr) (m : Str → Option Value) (news : List (Addr × Obj)) (P : Array UInt8 → Prop) (s : Shared) : Flow → Shared → Prop :=
  fun v s' => ∃ z t h' tk' m', v = .next ∧ s' = { s with heap := h', toks := tk' } ∧ Fr h₀ L h' m' ∧ (∀ y, m' y = if y = Str.ofString "octets" then some (.bytes z t) else m y) ∧ News h₀ L h' news ∧ P z
section
variable {prog : Program} {w : World} {A : Around} {E : Value → Shared → Prop} {s : Shared} {h₀ : Heap} {L : Addr} {m : Str → Option Value} {news : List (Addr × Obj)} {Q : Value → Shared → Prop} {R : Flow → Shared → Prop} {t : Sem Value} {u : Sem Flow}
theorem cut_b (P : Array UInt8 → Prop) (F : Fr h₀ L s.heap m) (N : News h₀ L s.heap news) (h : wpAny (model prog w) A t (CutB h₀ L m news P s) E s)
    (k : ∀ z t h' tk', Fr h₀ L h' m → News h₀ L h' news → P z → Q (.bytes z t) { s with heap := h', toks := tk' }) : wpAny (model prog w) A t Q E s :=
  wpAny_mono h (fun v s' c => by obtain ⟨z, t, h', tk', rfl, rfl, F', N', p⟩ := c; exact k z t h' tk' F' N' p) fun _ _ e => e
theorem cut_f (P : Array UInt8 → Prop) (F : Fr h₀ L s.heap m) (N : News h₀ L s.heap news) (h : wpAny (model prog w) A u (CutF h₀ L m news P s) E s)
    (k : ∀ z t h' tk', Fr h₀ L h' (fun y => if y = Str.ofString "octets" then some (.bytes z t) else m y) → News h₀ L h' news → P z → R .next { s with heap := h', toks := tk' }) : wpAny (model prog w) A u R E s :=
  wpAny_mono h (fun v s' c => by obtain ⟨z, t, h', tk', m', rfl, rfl, F', e, N', p⟩ := c; exact k z t h' tk' (by rwa [funext e] at F') N' p) fun _ _ e => e
def WholeP (r z : Array UInt8) : Prop := KBw.bInts z ∈ wholeT ∧ ¬ (KBw.bInts z = [] ∧ KBw.bInts r = [])
def BareP (w r p z : Array UInt8) : Prop := KBw.bInts z = KBw.bInts w ++ [46] ++ KBw.bInts r ∨ (KBw.bInts r = [] ∧ ¬ KBw.bInts p = [] ∧ KBw.bInts z = KBw.bInts w)
def TailP (c p z : Array UInt8) : Prop := (KBw.bInts p = [] ∧ KBw.bInts z = []) ∨ (¬ KBw.bInts p = [] ∧ KBw.bInts z = KBw.bInts c ++ KBw.bInts p)
theorem cut_whole {r : Array UInt8} (_ : KBw.bInts r ∈ restS) (F : Fr h₀ L s.heap m) (N : News h₀ L s.heap news) (h : wpAny (model prog w) A t (CutB h₀ L m news (WholeP r) s) E s)
    (k : ∀ z t h' tk', Fr h₀ L h' m → News h₀ L h' news → WholeP r z → Q (.bytes z t) { s with heap := h', toks := tk' }) : wpAny (model prog w) A t Q E s := cut_b _ F N h k
theorem cut_tail {c p : Array UInt8} {k : Int} (_ : KBw.bInts c ∈ letS) (_ : (KBw.bInts p, k) ∈ powS) (F : Fr h₀ L s.heap m) (N : News h₀ L s.heap news) (h : wpAny (model prog w) A t (CutB h₀ L m news (TailP c p) s) E s)
    (k : ∀ z t h' tk', Fr h₀ L h' m → News h₀ L h' news → TailP c p z → Q (.bytes z t) { s with heap := h', toks := tk' }) : wpAny (model prog w) A t Q E s := cut_b _ F N h k
theorem cut_bare {w' r p : Array UInt8} {k : Int} (_ : WholeP r w') (_ : (KBw.bInts p, k) ∈ powS) (F : Fr h₀ L s.heap m) (N : News h₀ L s.heap news) (h : wpAny (model prog w) A u (CutF h₀ L m news (BareP w' r p) s) E s)
    (k : ∀ z t h' tk', Fr h₀ L h' (fun y => if y = Str.ofString "octets" then some (.bytes z t) else m y) → News h₀ L h' news → BareP w' r p z → R .next { s with heap := h', toks := tk' }) : wpAny (model prog w) A u R E s := cut_f _ F N h k
theorem eq_ints {b c : Array UInt8} {t u : Tok} {Q : Value → Shared → Prop} (hy : KBw.bInts b = KBw.bInts c → Q (.bool true) s) (hn : ¬ KBw.bInts b = KBw.bInts c → Q (.bool false) s) : wpAny (model prog w) A (compareOp .Eq (.bytes b t) (.bytes c u)) Q E s := eq_bytes_ints hy hn
end
theorem whole_three {r : Array UInt8} : WholeP r #[51] := ⟨.head _, fun h => absurd h.1 (by decide)⟩
theorem whole_same {r z : Array UInt8} (hw : KBw.bInts z ∈ wholeS) (hn : ¬ KBw.bInts z = KBw.bInts #[]) : WholeP r z := ⟨.tail _ hw, fun h => hn h.1⟩
theorem whole_rest {r z : Array UInt8} (hw : KBw.bInts z ∈ wholeS) (hn : ¬ KBw.bInts r = KBw.bInts #[]) : WholeP r z := ⟨.tail _ hw, fun h => hn h.2⟩
theorem tail_none {c p : Array UInt8} (h : KBw.bInts p = KBw.bInts #[]) : TailP c p #[] := .inl ⟨h, rfl⟩
theorem tail_some {c p : Array UInt8} (h : ¬ KBw.bInts p = KBw.bInts #[]) : TailP c p (c ++ p) := .inr ⟨h, ints_append c p⟩
theorem bare_dot {w r p : Array UInt8} : BareP w r p (w ++ #[46] ++ r) := .inl (by rw [ints_append, ints_append]; rfl)
theorem bare_so {w r p : Array UInt8} (h : KBw.bInts r = KBw.bInts #[]) (hp : ¬ KBw.bInts p = KBw.bInts #[]) : BareP w r p w := .inr ⟨h, hp, rfl⟩
theorem whole_le {r z : Array UInt8} (h : WholeP r z) : z.size ≤ 30 := whole_size h.1
theorem tail_le {c p z : Array UInt8} {k : Int} (hc : KBw.bInts c ∈ letS) (hp : (KBw.bInts p, k) ∈ powS) (h : TailP c p z) : z.size ≤ 28 := by
  have h1 := let_size hc
  have h2 := pow_size hp
  rw [← KBw.ints_length] at h1 h2 ⊢
  rcases h with ⟨_, h⟩ | ⟨_, h⟩ <;> rw [h]
  · decide
  · rw [List.length_append]; omega
theorem bare_le {w r p z : Array UInt8} (hw : WholeP r w) (hr : KBw.bInts r ∈ restS) (h : BareP w r p z) : z.size ≤ 62 := by
  have h1 := whole_le hw
  have h2 := rest_size hr
  rw [← KBw.ints_length] at h1 h2 ⊢
  rcases h with h | ⟨_, _, h⟩ <;> rw [h]
  · rw [List.length_append, List.length_append, List.length_singleton]; omega
  · omega
theorem oct_le {w r p c o e : Array UInt8} {k : Int} (hw : WholeP r w) (hr : KBw.bInts r ∈ restS) (hc : KBw.bInts c ∈ letS) (hp : (KBw.bInts p, k) ∈ powS) (ho : BareP w r p o) (he : TailP c p e) : (o ++ e).size ≤ 90 := by
  have := bare_le hw hr ho
  have := tail_le hc hp he
  rw [Array.size_append]; omega
theorem oct_read {w r p c o e : Array UInt8} {k : Int} (b : Bool) (hw : WholeP r w) (hr : KBw.bInts r ∈ restS) (hc : KBw.bInts c ∈ letS) (hp : (KBw.bInts p, k) ∈ powS) (ho : BareP w r p o) (he : TailP c p e) :
    readV (KBw.bInts (o ++ e)) b = some (dueW (KBw.bInts w) (KBw.bInts r) k b) := by
  rw [ints_append]
  rcases he with ⟨hp0, he⟩ | ⟨hp0, he⟩ <;> rw [he]
  · rcases ho with ho | ⟨_, hq, _⟩
    · rw [ho, List.append_nil]; exact at_dot hw.1 hr hp hw.2 hp0
    · exact absurd hp0 hq
  · rcases ho with ho | ⟨hr0, _, ho⟩ <;> rw [ho]
    · exact at_exp hw.1 hr hp hc hw.2 hp0
    · exact at_bare hw.1 hr0 hp hc hw.2 hp0
theorem due_eq {w r : Array UInt8} {k : Int} {b : Bool} : dueN (cntV (KBw.bInts (w ++ r))) (k - r.size + 6) b = dueW (KBw.bInts w) (KBw.bInts r) k b := by
  unfold dueW; rw [ints_append, KBw.ints_length]
section
variable {w : World} {mean : ExcName → Option Value} {mg mb : Str → Option Value} {dp un : Nat} {gd : Option (List Code)} {cn : Str} {cs : Scope} {a : Addr} {ccd : Value} {cl : List (Str × Addr)} {outer : List Env} {A₀ : Around} {base h₀ : Heap} {L : Addr} {m : Str → Option Value} {news : List (Addr × Obj)} {s : Shared} {Q E : Value → Shared → Prop}
  {b r p : Array UInt8} {tb tr tt : Tok} {k : Int} {below : Bool}
theorem due_use (hw : WholeP r b) (hr : KBw.bInts r ∈ restS) (hp : (KBw.bInts p, k) ∈ powS)
    (B : Below A₀ base outer h₀) (F : Fr h₀ L s.heap m) (X : (hd.heap_39 w.params).In h₀) (N : News h₀ L s.heap news) (Tp : TopM mean mg mb h₀) (hk : cs.kind = .function) (hd1 : dp + 8 < recursionLimit) (hu : un + 8 * 8 < cLine)
    (non : ∀ h' tk', Fr h₀ L h' m → News h₀ L h' news → dueW (KBw.bInts b) (KBw.bInts r) k below = none → Q .none { s with heap := h', toks := tk' })
    (ret : ∀ x t h' tk', Fr h₀ L h' m → News h₀ L h' news → dueW (KBw.bInts b) (KBw.bInts r) k below = some x → Q (.int x t) { s with heap := h', toks := tk' }) :
    wpAny (model PySem.Challenge.rw_on0257_01.row.prog w) (ktrTop dp un gd cn cs L a ccd cl outer) (call (.ref 150) [.bytes b tb, .bytes r tr, .int k tt, .bool below]) Q E s :=
  Tell.use (law_due_tells w mean mg mb b r tb tr tt k below (Nat.le_trans (whole_le hw) (by decide)) (Nat.le_trans (rest_size hr) (by decide)) (by rw [ints_append]; exact (cnt_bound hw.1 hr).1) (by rw [ints_append]; exact (cnt_bound hw.1 hr).2) (pow_tens hp).2 (pow_tens hp).1)
    B F X N Tp hk hd1 hu fun v h' tk' F' N' O => by
      rw [due_eq] at O
      rcases O with ⟨e, rfl⟩ | ⟨x, t, e, rfl⟩
      · exact non h' tk' F' N' e
      · exact ret x t h' tk' F' N' e
end
end Mine
end
section
open PySem PySem.W PyProof.Rows PySem.Calls PySem.SeqAt
namespace Mine
section
variable {prog : Program} {w : World} {A : Around} {E : Value → Shared → Prop} {s : Shared} {h₀ : Heap} {L : Addr} {news : List (Addr × Obj)} {Q : Value → Shared → Prop}
theorem tup_same {T T' : Addr} {x : Int} {u t u' t' : Tok} (N : News h₀ L s.heap news) (h : (T, realObj x u t) ∈ news) (h' : (T', realObj x u' t') ∈ news) (hu : A.units + 64 < cLine) : EqAt A s (.ref T) (.ref T') true := by
  by_cases e : T = T'
  · subst e; exact EqAt.same _
  · have R := RcAt.tuples (A := A) (e := fun _ => true) (News.isTup N h : s.heap.IsTuple T _) (News.isTup N h' : s.heap.IsTuple T' _) (by omega) (by
      intro j h1 h2
      match j, h1 with
      | 0, _ => have := EqAt.str_str (A := A.in1) (s := s) "real" u "real" u'; rwa [beq_self_eq_true] at this
      | 1, _ => have := EqAt.int_int (A := A.in1) (s := s) x t x t'; rwa [beq_self_eq_true] at this
      | n + 2, hn => exact absurd hn (by simp))
    exact EqAt.of_refs e R
theorem ne_pair_lim {l l' T T' : Addr} {x : Int} {u t u' t' b b' : Tok} {n n' : Nat} (N : News h₀ L s.heap news) (h1 : (l, listOf #[.ref T, .bytes limB.toArray b] n) ∈ news) (h2 : (l', listOf #[.ref T', .bytes limB.toArray b'] n') ∈ news)
    (h3 : (T, realObj x u t) ∈ news) (h4 : (T', realObj x u' t') ∈ news) (hu : A.units + 128 < cLine) (h : Q (.bool false) s) : wpAny (model prog w) A (compareOp .NotEq (.ref l) (.ref l')) Q E s :=
  RcNeAt.lists (e := fun _ => true) (News.isList N h1) (News.isList N h2) rfl (by omega) (by
      intro j h1 h2
      match j, h1 with
      | 0, _ => exact tup_same N h3 h4 (show A.units + 1 + 64 < cLine by omega)
      | 1, _ => have := EqAt_bytes (A := A.in1) (s := s) limB.toArray limB.toArray b b'; rwa [decide_eq_true rfl] at this
      | n + 2, hn => exact absurd hn (by simp)) prog w E Q h
end
end Mine
end
section
open PySem PySem.W PyProof.Rows PySem.Calls
namespace Mine
theorem tape_use {w : World} {mean : ExcName → Option Value} {mg mb : Str → Option Value}
    {dp un : Nat} {gd : Option (List Code)} {cn : Str} {cs : Scope} {a : Addr} {ccd : Value} {cl : List (Str × Addr)} {outer : List Env} {A₀ : Around} {base h₀ : Heap} {L : Addr} {m : Str → Option Value} {s : Shared} {Q E : Value → Shared → Prop} {l : Addr} {vs : List Value} {ns : List Int}
    (B : Below A₀ base outer h₀) (F : Fr h₀ L s.heap m) (X : (hd.heap_39 w.params).In h₀) (N : News h₀ L s.heap []) (Tp : TopM mean mg mb h₀) (hk : cs.kind = .function) (hl : base.IsList l vs.toArray) (hI : IntsAre vs ns) (hz : ns.length ≤ 63) (hd1 : dp + 5 < recursionLimit) (hu : un + 8 * 5 < cLine)
    (ret : ∀ D C oD ws ns' n x t h' tk', Fr h₀ L h' m → News h₀ L h' [(D, oD), (C, listOf ws.toArray n)] → TapeD w C oD x t → IntsAre ws ns' → ns'.length ≤ 63 → @LT.lt Nat _ D C → Q (.ref D) { s with heap := h', toks := tk' }) :
    wpAny (model PySem.Challenge.rw_on0257_01.row.prog w) (ktrTop dp un gd cn cs L a ccd cl outer) (call (.ref 129) [.ref l]) Q E s :=
  law_tape_tells w mean mg mb _ _ _ _ _ _ _ _ _ _ _ _ _ _ _ _ _ _ _ _ B F X N Tp hk hl hI hz hd1 hu ret
def SplitT (ledger pre : List (Addr × Obj)) (D : Addr) (oD : Obj) (C : Addr) (oC : Obj) : Prop := ledger = pre ++ [(D, oD), (C, oC)]
theorem split_here {D C : Addr} {oD oC : Obj} : SplitT [(D, oD), (C, oC)] [] D oD C oC := rfl
theorem split_there {l pre : List (Addr × Obj)} {p : Addr × Obj} {D C : Addr} {oD oC : Obj} (h : SplitT l pre D oD C oC) : SplitT (p :: l) (p :: pre) D oD C oC := congrArg (p :: ·) h
theorem split_news {h₀ h : Heap} {L D C : Addr} {oD oC : Obj} {ledger pre : List (Addr × Obj)} (N : News h₀ L h ledger) (s : SplitT ledger pre D oD C oC) : News h₀ L h (pre ++ [(D, oD), (C, oC)]) := by
  unfold SplitT at s; rw [← s]; exact N
def PowAll (ledger : List (Addr × Obj)) (vs : List Value) : Prop := ∀ v ∈ vs, ∃ T z u k t, v = .ref T ∧ (T, tupOf [.bytes z u, .int k t]) ∈ ledger ∧ (KBw.bInts z, k) ∈ powS
theorem powAll_nil {ledger : List (Addr × Obj)} : PowAll ledger [] := fun _ h => nomatch h
theorem powAll_cons {ledger : List (Addr × Obj)} {vs : List Value} {T : Addr} {z : Array UInt8} {k : Int} {u t : Tok} (hm : (T, tupOf [.bytes z u, .int k t]) ∈ ledger) (hk : (KBw.bInts z, k) ∈ powS) (r : PowAll ledger vs) : PowAll ledger (.ref T :: vs) := fun v hv => by
  rcases List.mem_cons.mp hv with rfl | hv
  · exact ⟨T, z, u, k, t, rfl, hm, hk⟩
  · exact r v hv
theorem pow_go {h₀ h : Heap} {L : Addr} {ledger : List (Addr × Obj)} {v : Value} {vs : List Value} {G : Prop} (_ : News h₀ L h ledger) (hv : v ∈ vs) (hp : PowAll ledger vs)
    (k : (∃ T z u k t, v = .ref T ∧ (T, tupOf [.bytes z u, .int k t]) ∈ ledger ∧ (KBw.bInts z, k) ∈ powS) → G) : G := k (hp v hv)
theorem trim_go {h₀ h : Heap} {L D C : Addr} {oD oC : Obj} {ledger pre : List (Addr × Obj)} {G : Prop} (N : News h₀ L h ledger) (s : SplitT ledger pre D oD C oC) (_ : pre ≠ []) (k : News h₀ L h [(D, oD), (C, oC)] → G) : G := k (split_news N s).right
theorem odd_size {w r o : List Int} (hw : w ∈ wholeT) (hr : r ∈ restS) (ho : o ∈ oddL w r) : o.length ≤ 90 :=
  (show ∀ w ∈ wholeT, ∀ r ∈ restS, ∀ o ∈ oddL w r, o.length ≤ 90 by decide +kernel) _ hw _ hr _ ho
theorem odd_sizeA {w r o : Array UInt8} (hw : WholeP r w) (hr : KBw.bInts r ∈ restS) (ho : KBw.bInts o ∈ oddL (KBw.bInts w) (KBw.bInts r)) : o.size ≤ 90 := by
  rw [← KBw.ints_length]; exact odd_size hw.1 hr ho
theorem at_oddA {w r o : Array UInt8} {b : Bool} (hw : WholeP r w) (hr : KBw.bInts r ∈ restS) (ho : KBw.bInts o ∈ oddL (KBw.bInts w) (KBw.bInts r)) : readV (KBw.bInts o) b = none := at_odd hw.1 hr ho
theorem odd_use {w : World} {mean : ExcName → Option Value} {mg mb : Str → Option Value} {dp un : Nat} {gd : Option (List Code)} {cn : Str} {cs : Scope} {a : Addr} {ccd : Value} {cl : List (Str × Addr)} {outer : List Env} {A₀ : Around} {base h₀ : Heap} {L : Addr} {m : Str → Option Value} {ledger pre : List (Addr × Obj)} {s : Shared} {Q E : Value → Shared → Prop}
    {b r : Array UInt8} {tb tr : Tok} {D C : Addr} {oD : Obj} {ws : List Value} {ns : List Int} {n : Nat} {x : Int} {tx : Tok}
    (hw : WholeP r b) (hr : KBw.bInts r ∈ restS) (B : Below A₀ base outer h₀) (F : Fr h₀ L s.heap m) (X : (hd.heap_39 w.params).In h₀) (N : News h₀ L s.heap ledger) (sp : SplitT ledger pre D oD C (listOf ws.toArray n)) (Tp : TopM mean mg mb h₀) (hk : cs.kind = .function) (hd1 : dp + 30 < recursionLimit) (hu : un + 8 * 30 < cLine)
    (hT : TapeD w C oD x tx) (hI : IntsAre ws ns) (hl : ns.length ≤ 63) (hDC : @LT.lt Nat _ D C)
    (ret : ∀ z t h' tk', Fr h₀ L h' m → News h₀ L h' [] → KBw.bInts z ∈ oddL (KBw.bInts b) (KBw.bInts r) → Q (.bytes z t) { s with heap := h', toks := tk' }) :
    wpAny (model PySem.Challenge.rw_on0257_01.row.prog w) (ktrTop dp un gd cn cs L a ccd cl outer) (call (.ref 164) [.ref D, .bytes b tb, .bytes r tr]) Q E s :=
  law_odd_tells w mean mg mb b r tb tr (Nat.le_trans (whole_le hw) (by decide)) (Nat.le_trans (rest_size hr) (by decide)) _ _ _ _ _ _ _ _ _ _ _ _ _ _ _ _ _ _ _ _ _ _ _ _ _ B F X (split_news N sp).right Tp hk hd1 hu hT hI hl hDC ret
theorem cutF_dot {h₀ h' : Heap} {L : Addr} {m : Str → Option Value} {news : List (Addr × Obj)} {w r p : Array UInt8} {s : Shared} {t tk' : Tok}
    (F : Fr h₀ L h' (fun y => if y = Str.ofString "octets" then some (.bytes (w ++ #[46] ++ r) t) else m y)) (N : News h₀ L h' news) :
    CutF h₀ L (fun y => if y = Str.ofString "octets" then some (.bytes (w ++ #[46] ++ r) t) else m y) news (BareP w r p) s .next { s with heap := h', toks := tk' } :=
  ⟨w ++ #[46] ++ r, t, h', tk', _, rfl, rfl, F, fun y => by
    by_cases hy : y = Str.ofString "octets"
    · simp only [if_pos hy]
    · simp only [if_neg hy], N, bare_dot⟩
theorem cutF_so {h₀ h' : Heap} {L : Addr} {m : Str → Option Value} {news : List (Addr × Obj)} {w r p : Array UInt8} {s : Shared} {t tk' : Tok}
    (F : Fr h₀ L h' (fun y => if y = Str.ofString "octets" then some (.bytes w t) else m y)) (N : News h₀ L h' news) (h : KBw.bInts r = KBw.bInts #[]) (hp : ¬ KBw.bInts p = KBw.bInts #[]) :
    CutF h₀ L m news (BareP w r p) s .next { s with heap := h', toks := tk' } :=
  ⟨_, _, _, _, _, rfl, rfl, F, fun _ => rfl, N, bare_so h hp⟩
theorem big_ex : ∃ B : Int, readV (KBw.bInts #[49, 101, 49, 53]) false = some (some B) ∧ 10 ^ Int.toNat 21 = B := ⟨_, told3, rfl⟩
local macro_rules | `(tactic| walk_at $s:str) => `(tactic| k_extra $s)
set_option maxRecDepth 100000 in
set_option maxHeartbeats 8000000 in
theorem walked : PySem.Challenge.rw_on0257_01.Holds := hd (by
  obtain ⟨B9, hB1, hB2⟩ := big_ex
  k_go0
  all_goals try k_fold
  k_with_none
  k_with "subscriptTail" => (
    (k_here; (with_reducible show wpAny _ _ (subscriptTail _ _ (Value.ref _) (Value.int _ _)) _ _ _); k_dflt (refine' item_any ?k1 ?k2 ?k3 ?k4 ?_ ?k5; (case k1 => exact News.isList (by k_asm) (by k_mem)); (case k2 => assumption); (case k3 => assumption); (case k4 => exact Nat.le_of_ble_eq_true rfl); (case k5 => with_unfolding_all rfl); k_whole; intro v9 hv9; first
      | ((first | (obtain ⟨z9, u9, hz9, hm9⟩ := bytes_mem (S := letS) hv9 rfl; have hs9 := let_size hm9) | (obtain ⟨z9, u9, hz9, hm9⟩ := bytes_mem (S := wholeS) hv9 rfl; have hs9 := whole_size (.tail _ hm9)) | (obtain ⟨z9, u9, hz9, hm9⟩ := bytes_mem (S := restS) hv9 rfl; have hs9 := rest_size hm9)); subst hz9)
      | ((rename News _ _ _ _ => N9); (refine' pow_go N9 hv9 ?hp9 ?_; (case hp9 => repeat' (first | exact powAll_nil | (refine' powAll_cons ?m9 ?k9 ?_; (case m9 => k_mem); (case k9 => k_mem)))); intro hp9); obtain ⟨T9, z9, u9, k9, tk9, hv9, hm9, hp9⟩ := hp9; subst hv9; have hs9 := pow_size hp9))))
  k_with "assign Tuple" => ((k_here; (with_reducible show wpAny _ _ (assign (Expr.Tuple _ _ _) _ (Value.ref _)) _ _ _); k_dflt (refine' unpackN_ ?F ?N ?T ?k1 ?k2 ?k3 ?_; (case F => k_asm); (case N => k_asm); (case T => exact News.isTup (by k_asm) (by assumption)); (case k1 => exact rfl); (case k2 => exact rfl); (case k3 => exact rfl)); intro h' F' N'; (try k_sweep)))
  k_with "call ref" => (
    first
      | ((with_reducible show wpAny _ _ (PySem.call _ [Value.ref _]) _ _ _); k_here; k_dflt (refine' tape_use ?tB ?tF ?tX ?tN ?tT ?tk ?n1 ?n2 ?n3 ?td ?tu ?_); (case tB => k_asm); (case tF => k_asm); (case tX => k_asm); (case tN => k_asm); (case tT => k_asm); (case tk => first | exact rfl | assumption); (case n1 => is_list); (case n2 => assumption); (case n3 => omega); (case td => first | ktr_room | decide); (case tu => first | ktr_units | decide); k_whole; intro D9 C9 oD9 ws9 ns9 n9 x9 tx9 h' tk' F' N' hT9 hI9 hl9 hDC9)
      | ((with_reducible show wpAny _ _ (PySem.call _ [Value.ref _, Value.int _ _]) _ _ _); k_here; k_dflt (refine' next_use ?b1 ?b2 _ ?tB ?tF ?tX (split_news ?tN ?sp) ?tT ?tk ?td ?tu ?n1 ?n2 ?n3 ?n4 ?n5 ?n6 ?_; (case tN => k_asm); (case sp => repeat' (first | exact split_here | refine' split_there ?_))); (case b1 => decide); (case b2 => decide); (case tB => k_asm); (case tF => k_asm); (case tX => k_asm); (case tT => k_asm); (case tk => first | exact rfl | assumption); (case td => ktr_room); (case tu => ktr_units); (case n1 => assumption); (case n2 => assumption); (case n3 => assumption); (case n4 => k_all); (case n5 => k_all); (case n6 => assumption); k_whole; intro r9 t9 oD9 ws9 ns9 n9 x9 tx9 h' tk' F' N' hT9 hI9 hl9 hr9 hr8; (try dsimp only [List.cons_append, List.nil_append] at N'))
      | ((with_reducible show wpAny _ _ (PySem.call _ [Value.bytes _ _, Value.bytes _ _, Value.int _ _, Value.bool _]) _ _ _); k_here; (k_dflt (refine' due_use ?hw ?hr ?hp ?tB ?tF ?tX ?tN ?tT ?tk ?td ?tu ?_ ?_); (case hw => assumption); (case hr => assumption); (case hp => assumption); (case tB => k_asm); (case tF => k_asm); (case tX => k_asm); (case tN => k_asm); (case tT => k_asm); (case tk => first | exact rfl | assumption); (case td => first | ktr_room | decide); (case tu => first | ktr_units | decide); k_whole) <;> first | (intro h' tk' F' N' hd9; (have hd8 : _ = none := hd9); clear hd8; (try k_sweep)) | (intro x9 t9 h' tk' F' N' hd9; (try k_sweep)))
      | ((with_reducible show wpAny _ _ (PySem.call _ [Value.bytes (_ ++ _) _, Value.bool _]) _ _ _); k_here; first
        | (k_dflt (refine' told_some ?hb ?hv ?tB ?tF ?tX ?tN ?tT ?tk ?td ?tu ?_); (case hv => exact (oct_read _ (by assumption) (by assumption) (by assumption) (by assumption) (by assumption) (by assumption)).trans (congrArg some (by assumption))); (case hb => exact oct_le (by assumption) (by assumption) (by assumption) (by assumption) (by assumption) (by assumption)); (case tB => k_asm); (case tF => k_asm); (case tX => k_asm); (case tN => k_asm); (case tT => k_asm); (case tk => first | exact rfl | assumption); (case td => first | ktr_room | decide); (case tu => first | ktr_units | decide); k_whole; intro D9 u9 t9 h' tk' F' N'; (try k_sweep))
        | (k_dflt (refine' told_lim ?hb ?hv ?tB ?tF ?tX ?tN ?tT ?tk ?td ?tu ?_); (case hv => exact (oct_read _ (by assumption) (by assumption) (by assumption) (by assumption) (by assumption) (by assumption)).trans (congrArg some (by assumption))); (case hb => exact oct_le (by assumption) (by assumption) (by assumption) (by assumption) (by assumption) (by assumption)); (case tB => k_asm); (case tF => k_asm); (case tX => k_asm); (case tN => k_asm); (case tT => k_asm); (case tk => first | exact rfl | assumption); (case td => first | ktr_room | decide); (case tu => first | ktr_units | decide); k_whole; intro t9 h' tk' F' N'; (try k_sweep)))
      | ((with_reducible show wpAny _ _ (PySem.call _ [Value.bytes (List.toArray (_ :: _)) _, Value.bool _]) _ _ _); k_here; first
        | (k_dflt (refine' told_some ?hb ?hv ?tB ?tF ?tX ?tN ?tT ?tk ?td ?tu ?_); (case hv => first | with_reducible exact told1 | with_reducible exact told2 | with_reducible assumption); (case hb => decide); (case tB => k_asm); (case tF => k_asm); (case tX => k_asm); (case tN => k_asm); (case tT => k_asm); (case tk => first | exact rfl | assumption); (case td => first | ktr_room | decide); (case tu => first | ktr_units | decide); k_whole; intro D9 u9 t9 h' tk' F' N'; (try k_sweep))
        | (k_dflt (refine' told_lim ?hb ?hv ?tB ?tF ?tX ?tN ?tT ?tk ?td ?tu ?_); (case hv => with_reducible exact told4); (case hb => decide); (case tB => k_asm); (case tF => k_asm); (case tX => k_asm); (case tN => k_asm); (case tT => k_asm); (case tk => first | exact rfl | assumption); (case td => first | ktr_room | decide); (case tu => first | ktr_units | decide); k_whole; intro t9 h' tk' F' N'; (try k_sweep)))
      | ((with_reducible show wpAny _ _ (PySem.call _ [Value.ref _, Value.bytes _ _, Value.bytes _ _]) _ _ _); k_here; k_dflt (refine' odd_use ?hw ?hr ?tB ?tF ?tX ?tN ?sp ?tT ?tk ?td ?tu ?n1 ?n2 ?n3 ?n4 ?_); (case hw => assumption); (case hr => assumption); (case tB => k_asm); (case tF => k_asm); (case tX => k_asm); (case tN => k_asm); (case sp => repeat' (first | exact split_here | refine' split_there ?_)); (case tT => k_asm); (case tk => first | exact rfl | assumption); (case td => first | ktr_room | decide); (case tu => first | ktr_units | decide); (case n1 => assumption); (case n2 => assumption); (case n3 => assumption); (case n4 => assumption); k_whole; intro z9 t9 h' tk' F' N' ho9))
  k_with "exec Assign" => ((k_here; (rename TapeD _ _ _ _ _ => hT9); (rename News _ _ _ _ => N9); (refine' trim_go N9 ?sp9 ?ne9 ?_; (case sp9 => repeat' (first | exact split_here | refine' split_there ?_)); (case ne9 => exact fun e => nomatch e)); clear N9; intro N'))
  k_with "call ref" => (((with_reducible show wpAny _ _ (PySem.call _ [Value.bytes _ _, Value.bool _]) _ _ _); (rename KBw.bInts _ ∈ oddL _ _ => ho9); k_here; (k_dflt (refine' told_nil ?hb ?hv ?tB ?tF ?tX ?tN ?tT ?tk ?td ?tu ?_); (case hv => exact at_oddA (by assumption) (by assumption) (by assumption)); (case hb => exact odd_sizeA (by assumption) (by assumption) (by assumption)); (case tB => k_asm); (case tF => k_asm); (case tX => k_asm); (case tN => k_asm); (case tT => k_asm); (case tk => first | exact rfl | assumption); (case td => first | ktr_room | decide); (case tu => first | ktr_units | decide); k_whole; intro h' tk' F' N'; (try k_sweep))))
  k_with "compareOp Eq bytes bytes" => ((k_here; (refine eq_ints ?_ ?_) <;> intro hM9))
  k_with "compareOp NotEq bytes bytes" => ((k_here; (fail_if_success (with_reducible show wpAny _ _ (compareOp _ (Value.bytes (List.toArray (_ :: _)) _) _) _ _ _)); (refine ne_bytes_ints ?_ ?_) <;> intro hM9))
  k_with "eval IfExp" => (
    (k_here; (fail_if_success (with_reducible show wpAny _ _ _ (CutB _ _ _ _ _ _) _ _)); first
      | ((with_reducible show wpAny _ _ (eval (Expr.IfExp (Expr.BoolOp _ _ _) _ _ _) _) _ _ _); (rename KBw.bInts _ ∈ restS => hrest9); k_dflt (refine' cut_whole hrest9 ?F ?N ?_ ?_; (case F => k_asm); (case N => k_asm)) <;> first | (intro z9 t9 h' tk' F' N' hP9; (try k_sweep); (have hs9 := whole_le hP9)) | skip)
      | ((with_reducible show wpAny _ _ (eval (Expr.IfExp (Expr.Compare (Expr.Name _ _) [CmpOp.NotEq] _ _) _ _ _) _) _ _ _); (rename KBw.bInts _ ∈ letS => hlet9); (rename (KBw.bInts _, _) ∈ powS => hpow9); k_dflt (refine' cut_tail hlet9 hpow9 ?F ?N ?_ ?_; (case F => k_asm); (case N => k_asm)) <;> first | (intro z9 t9 h' tk' F' N' hP9; (try k_sweep); (have hs9 := tail_le hlet9 hpow9 hP9)) | skip)))
  k_with "exec If" => ((k_here; (fail_if_success (with_reducible show wpAny _ _ _ (CutF _ _ _ _ _ _) _ _)); (with_reducible show wpAny _ _ (exec (Stmt.If (Expr.BoolOp _ _ _) _ _ _) _) _ _ _); (rename WholeP _ _ => hwhole9); (rename (KBw.bInts _, _) ∈ powS => hpow9); k_dflt (refine' cut_bare hwhole9 hpow9 ?F ?N ?_ ?_; (case F => k_asm); (case N => k_asm)) <;> first | (intro z9 t9 h' tk' F' N' hP9; (try k_sweep); (have hs9 := bare_le hwhole9 (by assumption) hP9)) | skip))
  k_with "binaryOp Add bytes bytes" => ((k_here; (with_reducible show wpAny _ _ (binaryOp Operator.Add (Value.bytes _ _) (Value.bytes _ _)) _ _ _); (refine KBy.add_bytes (by (try simp only [Array.size_append, List.size_toArray, List.length_nil, List.length_cons]); omega) ?_); intro t9 tk'))
  k_with "CutF" => (first | exact cutF_so (by assumption) (by assumption) (by assumption) (by assumption) | exact cutF_dot (by assumption) (by assumption))
  k_with "binaryOp Pow int int" => ((k_here; (with_reducible refine pow_int_small ?kb1 ?kb2 ?kb3 ?_); (case kb1 => decide); (case kb2 => decide); (case kb3 => decide); (rename (10 : Int) ^ Int.toNat 21 = _ => hB9; rw [hB9])))
  k_with "compareOp NotEq ref ref" => ((k_here; (with_reducible show wpAny _ _ (compareOp CmpOp.NotEq (Value.ref _) (Value.ref _)) _ _ _); k_dflt (refine' ne_pair_lim ?N ?h1 ?h2 ?h3 ?h4 ?hu ?_; (case N => k_asm); (case h1 => k_mem); (case h2 => k_mem); (case h3 => k_mem); (case h4 => k_mem); (case hu => first | ktr_units | decide))))
  k_with "CutB" => ((refine ⟨_, _, _, _, rfl, rfl, by k_asm, by k_asm, ?_⟩; first | exact whole_three | exact whole_same (by assumption) (by assumption) | exact whole_rest (by assumption) (by assumption) | exact tail_none (by assumption) | exact tail_some (by assumption)))
  k_steps)
end Mine
theorem PySem.Challenge.cw_on0257_01_holds : PySem.Challenge.rw_on0257_01.Holds := by
  exact Mine.walked
end
