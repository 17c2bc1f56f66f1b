import PyProof.Rows.All
import Wide.All
import OpenK.AllK
import Wide.FinOn
import PyProof.TupleOfStr
import HandS.Conv
import HandS.TupMul
import HandS.ForMost
import HandS.ForExc
import HandS.TupAny
import HandS.WideBits
import HandS.Deep
import HandS.Text
import HandS.IsInst
import HandS.Style
import HandS.ExcInit
import HandS.Iter
import HandS.Comp
import HandS.Zip
import HandS.TryMany
import HandS.NoneIn
import HandS.ExcField
import HandS.WordsExc
import HandS.ExcOwn
import KE.KExcIs
import HandS.HotCalls
import HandS.Strs
import HandS.Set
import HandS.SetFor
import HandS.SetTxt0
import HandS.Codes
import HandS.StrMore
import HandS.Dict
import HandS.More
import HandS.Ends
import PySem.Challenge.RW_turnedtogether_k00_words_and_plain_texts
set_option Elab.async false
set_option linter.all false
set_option maxRecDepth 100000
set_option maxHeartbeats 4000000
/-! LxLstr: list(text). -/
namespace LX
open PySem PySem.Spec PySem.Calls L2 PyProof.Rows
section
variable {prog : Program} {w : World} {A : Around} {E : Value → Shared → Prop} {s : Shared} {z : Str} {u : Tok}
theorem ls_hint {Q : Bool → Shared → Prop} (h : Q false s) : wpAny (model prog w) A (Builtin.List.listLengthHint (.str z u)) Q E s := by
  unfold Builtin.List.listLengthHint
  refine wpAny_bind (wpAny_specialOf (typeIs_str s z u) PySem.F.slot_str_len.lookup ?_)
  generalize hid : ("str.__len__" : String) = id0
  wp_delta
  rw [show splitId id0 = some ("str", "__len__") from by subst hid; decide +kernel]
  subst hid
  refine wpAny_bind (wpAny_isInstance (T := "str") (b := true) (typeIs_str s z u) (by rw [isSubtype_type]; kernel_rfl) ?_)
  refine wpAny_ite_split (fun q => absurd q (by decide)) (fun _ => ?_)
  refine wpAny_ite_split (fun _ => ?_) (fun q => absurd (by decide +kernel) q)
  exact wpAny_bind (wpAny_typeOf (typeIs_str s z u) (wpAny_pure h))
theorem ls_extend {R : Result → Shared → Prop} (hh : A.handled = none) (S : Addr) (c₀ : Nat) (hS : s.heap.get? S = some { cls := .type "list", data := .seq #[] c₀ })
    (hR : ∀ h' tk acc c, (∀ b o, b ≠ S → s.heap.get? b = some o → h'.get? b = some o) → h'.get? S = some { cls := .type "list", dict := none, data := .seq acc c, slots := #[] } → ItemsOf (SignAt z) acc z.cps.size → R (.ok (.ret .none)) { s with heap := h', toks := tk }) (hn : z.cps.size ≤ sizeLine) :
    wpAny (model prog w) A.in1 (Builtin.List.listExtendWith (.ref S) (.str z u) .none)
      (fun fin s' => match fin with | .done f => R (.ok f) s' | .again c' => c'.quiet = true ∧ codeAny (model prog w) A c' R s') (fun e s' => R (.error e) s') s := by
  have ne : S ≠ s.heap.objs.size := Nat.ne_of_lt (Heap.lt_size hS)
  unfold Builtin.List.listExtendWith
  refine wpAny_bind (wpAny_typeOf (T := "str") (typeIs_str s z u) ?_)
  have e1 : Builtin.List.listSameRef (.ref S) (.str z u) = false := rfl
  have e2 : (Value.type "str" == Value.type "list") = false := by decide
  have e3 : (Value.type "str" == Value.type "tuple") = false := by decide
  simp only [e1, e2, e3, Bool.or_false, Bool.false_eq_true, if_false]
  refine wpAny_bind (wpAny_pyIter_str fun oI St W st => ?_)
  have hS1 := Heap.get?_push_of_some oI hS
  have go : ∀ (h : Heap) (c1 tk : Nat), St 0 h → (∀ b o, b ≠ S → s.heap.get? b = some o → h.get? b = some o) → h.get? S = some { cls := .type "list", data := .seq #[] c1 } →
      codeAny (model prog w) A (.builtin "list.extend.loop" ⟨[.ref S, .ref s.heap.objs.size, .none], []⟩) R { s with heap := h, toks := tk } := fun h c1 tk hst hk h1 => by
    refine codeAny_extend_loopS (W A.in1 hh).toS hn S (fun q => ne (List.mem_singleton.mp q)) .none z.cps.size 0 _ #[] c1 rfl (Nat.zero_le _) hst h1 (ItemsOf.nil _) fun s' acc c hm hS' hacc => ?_
    rw [Moved.eq_with hm]
    refine hR s'.heap s'.toks acc c (fun b o hb e => hm.heap b o (fun q => ?_) (hk b o hb e)) hS' hacc
    rcases List.mem_cons.mp q with q | q
    · exact hb q
    · exact absurd (Heap.lt_size e) (by rw [List.mem_singleton.mp q]; exact Nat.lt_irrefl _)
  refine wpAny_bind (wpAny_holding (ls_hint ?_))
  refine wpAny_ite_split (fun _ => ?_) (fun _ => wpAny_pure ⟨plainId_quiet PySem.F.plain_extend_loop _, go _ c₀ _ st (fun b o _ e => Heap.get?_push_of_some _ e) hS1⟩)
  refine wpAny_bind (wpAny_rule (wpAny_bind ?_))
  show wpAny _ _ (updateSeq S (·.push .none) >>= fun _ => updateSeq S (·.pop)) _ _ _
  refine wpAny_bind (wpAny_updateSeq hS1 rfl ?_)
  have hS2 := Heap.get?_update_self (Obj.mapSeq (·.push Value.none)) hS1 rfl
  refine wpAny_updateSeq (hz := by seq_fits) hS2 rfl ?_
  have hS3 := Heap.get?_update_self (Obj.mapSeq (·.pop)) hS2 rfl
  have oth : ∀ b o, b ≠ S → (s.heap.push oI).get? b = some o → (((s.heap.push oI).update S (Obj.mapSeq (·.push Value.none))).update S (Obj.mapSeq (·.pop))).get? b = some o := fun b o hb e =>
    (Heap.get?_update_other _ _ (Ne.symm hb)).trans ((Heap.get?_update_other _ _ (Ne.symm hb)).trans e)
  exact wpAny_pure ⟨plainId_quiet PySem.F.plain_extend_loop _, go _ _ _ ((W A.in1 hh).frame 0 _ _ st fun b hb o e => oth b o (fun q => ne (q.symm.trans (List.mem_singleton.mp hb))) e) (fun b o hb e => oth b o hb (Heap.get?_push_of_some _ e)) hS3⟩
theorem ls_call {Q : Value → Shared → Prop} (hh : A.handled = none) (hn : z.cps.size ≤ sizeLine)
    (hQ : ∀ h' tk acc c, (∀ b o, s.heap.get? b = some o → h'.get? b = some o) → h'.get? s.heap.objs.size = some { cls := .type "list", dict := none, data := .seq acc c, slots := #[] } → ItemsOf (SignAt z) acc z.cps.size → Q (.ref s.heap.objs.size) { s with heap := h', toks := tk }) :
    wpAny (model prog w) A (call (.type "list") [.str z u]) Q E s := by
  refine callType_codes (Q₁ := fun obj s₁ => obj = .ref s.heap.objs.size ∧ s₁ = { s with heap := s.heap.push { cls := .type "list", data := .seq #[] } }) PySem.F.called_list (PySem.F.typeCall_list_1 _) PySem.F.entry_list_init (code_list_new _ ⟨rfl, rfl⟩) fun obj s₁ h₁ => ?_
  obtain ⟨rfl, rfl⟩ := h₁
  have hS : (s.heap.push { cls := .type "list", data := .seq #[] }).get? s.heap.objs.size = some { cls := .type "list", data := .seq #[] } := Heap.get?_push_size _ rfl
  refine ⟨⟨_, hS, rfl⟩, PySem.F.args_list_init_2 _ _, ?_⟩
  show wpAny _ _ (do let old ← Builtin.List.listItems (.ref s.heap.objs.size); Builtin.List.listUpdate (.ref s.heap.objs.size) (fun _ => #[]); letGo old.toList.reverse; Builtin.List.listExtendWith (.ref s.heap.objs.size) (.str z u) .none) _ _ _
  refine wpAny_bind ?_
  unfold Builtin.List.listItems
  refine wpAny_bind (wpAny_seqItems hS rfl (wpAny_pure ?_))
  show wpAny _ _ (updateSeq s.heap.objs.size (fun _ => #[]) >>= fun _ => letGo (#[] : Array Value).toList.reverse >>= fun _ => Builtin.List.listExtendWith (.ref s.heap.objs.size) (.str z u) .none) _ _ _
  refine wpAny_bind (wpAny_updateSeq hS rfl ?_)
  have hS2 := Heap.get?_update_self (Obj.mapSeq (fun _ => (#[] : Array Value))) hS rfl
  refine wpAny_bind (wpAny_letGo ?_)
  refine ls_extend (A := A.in1) hh _ _ hS2 (fun h' tk acc c hk hS' hacc => ?_) hn
  refine ⟨rfl, hQ h' tk acc c (fun b o e => ?_) hS' hacc⟩
  have hb : b ≠ s.heap.objs.size := Nat.ne_of_lt (Heap.lt_size e)
  exact hk b o hb ((Heap.get?_update_other _ _ (Ne.symm hb)).trans (Heap.get?_push_of_some _ e))
end
def rListS : List V → Hp → VK → Prop := fun xs H Q => ∃ z : Str, xs = [.str z] ∧ z.length ≤ sizeLine ∧ ∀ q, H q = none → Q (.ref q) (upd H q (.lst (z.cps.toList.map fun c => V.str ⟨#[c]⟩)))
theorem call_list_str {X : Cx} (hc : X.calm = true) : CallR X (.type "list") rListS := by
  intro pins s σ H xs us Q I r h
  obtain ⟨z, rfl, hz, q⟩ := h
  obtain ⟨v, rfl, rx⟩ := vals1 r
  obtain ⟨t, rfl⟩ := rx
  refine ls_call (I.ok.hd hc) hz fun h' tk acc c hk hS hacc => ?_
  refine ⟨.ref s.heap.objs.size, _, I.laid hk (Nat.le_refl _) (show ObjOk X.prog X.w _ _ _ (.lst (z.cps.toList.map fun c => V.str ⟨#[c]⟩)) from ⟨?_, acc.toList, c, ?_, ?_⟩), rfl, q _ (I.hok.fresh (Nat.le_refl _))⟩
  · rw [List.length_map, Array.length_toList]
    exact hz
  · refine vals_of_at (by rw [List.length_map, Array.length_toList, Array.length_toList, hacc.1]) fun j x w h1 h2 => ?_
    obtain ⟨d, t', e1, e2⟩ := hacc.2 j w (by rw [← Array.getElem?_toList]; exact h2)
    rw [List.getElem?_map, Array.getElem?_toList, e1] at h1
    cases h1
    exact ⟨t', e2⟩
  · rw [Array.toArray_toList]
    exact hS
def rTupS : List V → Hp → VK → Prop := fun xs H Q => ∃ z : Str, xs = [.str z] ∧ z.length ≤ sizeLine ∧ ∀ q, H q = none → Q (.ref q) (upd H q (.tup (z.cps.toList.map fun c => V.str ⟨#[c]⟩)))
theorem call_tupS {X : Cx} (hc : X.calm = true) : CallR X (.type "tuple") rTupS := by
  intro pins s σ H xs us Q I r h
  obtain ⟨z, rfl, hz, q⟩ := h
  obtain ⟨v, rfl, rx⟩ := vals1 r
  obtain ⟨t, rfl⟩ := rx
  refine PySem.call_tuple_str (I.ok.hd hc) z t (fun h' tk acc hk hacc => ?_) hz
  have I1 : Inv X pins σ H { s with heap := h', toks := tk } := I.kept hk
  refine ⟨.ref h'.objs.size, _, I1.laid (t' := tk) (fun b o e => Heap.get?_push_of_some _ e) (Nat.le_refl _) (show ObjOk X.prog X.w _ _ _ (.tup (z.cps.toList.map fun c => V.str ⟨#[c]⟩)) from ⟨?_, acc.toList, ?_, ?_⟩), rfl, q _ (I1.hok.fresh (Nat.le_refl _))⟩
  · rw [List.length_map, Array.length_toList]
    exact hz
  · refine vals_of_at (by rw [List.length_map, Array.length_toList, Array.length_toList, hacc.1]) fun j x w h1 h2 => ?_
    obtain ⟨d, t', e1, e2⟩ := hacc.2 j w (by rw [← Array.getElem?_toList]; exact h2)
    rw [List.getElem?_map, Array.getElem?_toList, e1] at h1
    cases h1
    exact ⟨t', e2⟩
  · rw [Array.toArray_toList]
    exact IsTup.new _ _
end LX

set_option Elab.async false
set_option linter.all false
set_option maxRecDepth 100000
set_option maxHeartbeats 4000000
/-! LxTup: tuple * int where the tuple stays, or is empty. -/
namespace LX
open PySem PySem.Spec L2 PyProof.Rows
theorem tup_mul_same (l : Addr) (items : Array Value) (n : Nat) (dd : Option Addr) (sl : Array (Option Value)) (x : Int) (u : Tok) (c0 : (decide (x < -(2 ^ 63)) || decide (x ≥ 2 ^ 63)) = false) (c1 : (items.isEmpty || x == 1) = true) :
    Meets (Builtin.«tuple.__mul__» ⟨[.ref l, .int x u], []⟩) (fun _ R s => s.heap.get? l = some { cls := .type "tuple", dict := dd, data := .seq items n, slots := sl } ∧ R (.ok (.ret (Value.ref l))) s) :=
  .of_wp fun prog w A R s h => by
    obtain ⟨hp, g, d, tk, os⟩ := s
    obtain ⟨hl, h⟩ := h
    have f1 := AutoSeq1.idx_int
    wp_walk using wpAny_loadPart' hl
    repeat (first
      | (refine wpAny_ite_false (decide_eq_false (by rw [c0]; exact Bool.false_ne_true)) ?_; wp_walk using wpAny_loadPart' hl)
      | (refine wpAny_ite_true (decide_eq_true c1) ?_; wp_walk using wpAny_loadPart' hl))
    exact ⟨_, rfl, h⟩
theorem tup_mul_none (l : Addr) (items : Array Value) (n : Nat) (dd : Option Addr) (sl : Array (Option Value)) (x : Int) (u : Tok) (c0 : (decide (x < -(2 ^ 63)) || decide (x ≥ 2 ^ 63)) = false) (c1 : (items.isEmpty || x == 1) = false) (c2 : (decide (x ≤ 0) || items.isEmpty) = true) :
    Meets (Builtin.«tuple.__mul__» ⟨[.ref l, .int x u], []⟩) (fun _ R s => s.heap.get? l = some { cls := .type "tuple", dict := dd, data := .seq items n, slots := sl } ∧
      R (.ok (.ret (Value.ref s.heap.objs.size))) { s with heap := s.heap.push { cls := Value.type "tuple", data := Data.seq #[] }, toks := s.toks }) :=
  .of_wp fun prog w A R s h => by
    obtain ⟨hp, g, d, tk, os⟩ := s
    obtain ⟨hl, h⟩ := h
    have f1 := AutoSeq1.idx_int
    wp_walk using wpAny_loadPart' hl
    repeat (first
      | (refine wpAny_ite_false (decide_eq_false (by rw [c0]; exact Bool.false_ne_true)) ?_; wp_walk using wpAny_loadPart' hl)
      | (refine wpAny_ite_false (decide_eq_false (by rw [c1]; exact Bool.false_ne_true)) ?_; wp_walk using wpAny_loadPart' hl)
      | (refine wpAny_ite_true (decide_eq_true c2) ?_; wp_walk using wpAny_loadPart' hl))
    exact ⟨_, rfl, h⟩
/-- t * k where the tuple stays -/
def rRepS (K : PySem.W.Frag) : R2 := fun x y H Q => ∃ l k xs, x = .ref l ∧ y = .int k ∧ SqT K H l xs ∧ -(2 ^ 62) ≤ k ∧ k < 2 ^ 62 ∧ (xs = [] ∨ k = 1) ∧ Q (.ref l) H
/-- t * k where nothing is left -/
def rRepZ (K : PySem.W.Frag) : R2 := fun x y H Q => ∃ l k xs, x = .ref l ∧ y = .int k ∧ SqT K H l xs ∧ xs ≠ [] ∧ -(2 ^ 62) ≤ k ∧ k ≤ 0 ∧ ∀ p, H p = none → Q (.ref p) (upd H p (.tup []))
section
variable {X : Cx}
theorem op_repS : OpR X (binaryOp .Mult) (rRepS X.K) := by
  intro pins s σ H x y v u Q I rx ry h
  obtain ⟨l, k, xs, rfl, rfl, hT, h1, h2, hs, q⟩ := h
  cases rx
  obtain ⟨t, rfl⟩ := ry
  obtain ⟨its, r, ⟨⟨cls, dd, data, sl⟩, ho, hc, n, hd⟩, _⟩ := I.tuple hT
  simp only at hc hd
  subst hc hd
  have hle : its.length = xs.length := r.length.symm
  have c0 : (decide (k < -(2 ^ 63)) || decide (k ≥ 2 ^ 63)) = false := by
    rw [decide_eq_false (by omega), decide_eq_false (by omega)] <;> rfl
  have c1 : (its.toArray.isEmpty || k == 1) = true := by
    rcases hs with e | e
    · rw [e] at hle
      have : its = [] := List.eq_nil_of_length_eq_zero hle
      rw [this]
      rfl
    · rw [e]
      simp
  refine wpAny_binaryOp_repeat_ref (T := "tuple") (U := "int") (by decide) ⟨_, ho, rfl⟩ (fun s' => typeIs_int s' k t) noFill_tuple_mul F.fills_int_mul F.slot_int_rmul repeat_tuple F.slot_int_index.lookup
    (call_meets F.slot_int_rmul (typeIs_int s k t) F.entry_int_rmul (F.args_int_rmul_2 _ _) (int_rmul_tuple k t l its.toArray n dd sl)
      ⟨ho, rfl, ⟨_, ho, rfl⟩, call_meets F.slot_tuple_mul ⟨_, ho, rfl⟩ F.entry_tuple_mul (F.args_tuple_mul_2 _ _) (tup_mul_same l its.toArray n dd sl k t c0 c1) ⟨ho, ?_⟩⟩)
  exact ⟨.ref l, H, I, rfl, q⟩
theorem op_repZ : OpR X (binaryOp .Mult) (rRepZ X.K) := by
  intro pins s σ H x y v u Q I rx ry h
  obtain ⟨l, k, xs, rfl, rfl, hT, hne, h1, h2, q⟩ := h
  cases rx
  obtain ⟨t, rfl⟩ := ry
  obtain ⟨its, r, ⟨⟨cls, dd, data, sl⟩, ho, hc, n, hd⟩, _⟩ := I.tuple hT
  simp only at hc hd
  subst hc hd
  have hle : its.length = xs.length := r.length.symm
  have hi : its.toArray.isEmpty = false := by
    cases its with
    | nil => exact absurd (List.eq_nil_of_length_eq_zero hle.symm) hne
    | cons a b => rfl
  have c0 : (decide (k < -(2 ^ 63)) || decide (k ≥ 2 ^ 63)) = false := by
    rw [decide_eq_false (by omega), decide_eq_false (by omega)] <;> rfl
  have c1 : (its.toArray.isEmpty || k == 1) = false := by
    rw [hi, Bool.false_or]
    exact beq_eq_false_iff_ne.mpr (by omega)
  have c2 : (decide (k ≤ 0) || its.toArray.isEmpty) = true := by
    rw [decide_eq_true h2]
    rfl
  refine wpAny_binaryOp_repeat_ref (T := "tuple") (U := "int") (by decide) ⟨_, ho, rfl⟩ (fun s' => typeIs_int s' k t) noFill_tuple_mul F.fills_int_mul F.slot_int_rmul repeat_tuple F.slot_int_index.lookup
    (call_meets F.slot_int_rmul (typeIs_int s k t) F.entry_int_rmul (F.args_int_rmul_2 _ _) (int_rmul_tuple k t l its.toArray n dd sl)
      ⟨ho, rfl, ⟨_, ho, rfl⟩, call_meets F.slot_tuple_mul ⟨_, ho, rfl⟩ F.entry_tuple_mul (F.args_tuple_mul_2 _ _) (tup_mul_none l its.toArray n dd sl k t c0 c1 c2) ⟨ho, ?_⟩⟩)
  refine ⟨.ref s.heap.objs.size, _, I.laid (t' := s.toks) (o := .tup []) (fun b ob q => Heap.get?_push_of_some _ q) (Nat.le_refl _) ?_, rfl, q _ (I.hok.fresh (Nat.le_refl _))⟩
  exact ⟨by rw [sizeLine_eq]; exact Nat.zero_le _, _, .nil, IsTup.new _ _⟩
end
end LX

set_option Elab.async false
set_option linter.all false
set_option maxRecDepth 100000
/-! LxCore: values, heap, results, the IR and its step. -/
namespace LX
open PySem (Str Operator CmpOp PyData)

/-- a value: tuples whole; tl: a list that is never written; fl: one of the module, or handed in; ref: a list that is written to -/
inductive D where
  | non | bl (b : Bool) | int (i : Int) | str (s : List Nat) | tup (xs : List D) | tl (xs : List D) | fl (xs : List D) | ref (n : Nat) | edic (kvs : List (List Nat × Int))
inductive MO where
  | lst (xs : List D)
abbrev MH := List MO
abbrev Flds := List (Str × D)
abbrev Env := List (Option D)

inductive Res (α : Type) where
  | ok (a : α) (M : MH) | exn (c : Nat) (fs : Flds) (M : MH) | stuck
/-- how a statement ends -/
inductive SRes where
  | nx (r : Env) (M : MH) | rt (d : D) (M : MH) | bk (r : Env) (M : MH) | ct (r : Env) (M : MH)
  | exn (c : Nat) (fs : Flds) (r : Env) (M : MH) | stuck

def Res.bind {α β : Type} (r : Res α) (k : α → MH → Res β) : Res β :=
  match r with
  | .ok a M => k a M
  | .exn c fs M => .exn c fs M
  | .stuck => .stuck
/-- an expression within a statement -/
def Res.sbind {α : Type} (r : Res α) (ρ : Env) (k : α → MH → SRes) : SRes :=
  match r with
  | .ok a M => k a M
  | .exn c fs M => .exn c fs ρ M
  | .stuck => .stuck
def SRes.sbind (r : SRes) (k : Env → MH → SRes) : SRes :=
  match r with
  | .nx ρ M => k ρ M
  | r => r
def ofO {α : Type} (o : Option α) (M : MH) : Res α :=
  match o with
  | some a => .ok a M
  | none => .stuck

inductive Kind where
  | int | str | tuple | list | bool
  deriving DecidableEq
/-- built-in functions by value -/
inductive Bf where
  | len | abs | int | max2 | min2 | maxL | minL | sum | sorted | list | tuple | str
  deriving DecidableEq
inductive Mt where
  | append | pop0 | pop1 | extend | join
  deriving DecidableEq
/-- a text's methods with one text -/
inductive Sm where
  | split | strip | starts | ends
  deriving DecidableEq
/-- a target of a loop: a slot, or a tuple of slots -/
inductive G where
  | one (i : Nat) | tup (is : List Nat)

inductive E where
  | var (i : Nat)
  | con (d : D)
  | tup (es : List E)
  | lst (m : Bool) (es : List E)
  | bin (m : Bool) (o : Operator) (a b : E)
  | neg (a : E)
  | cmp (o : CmpOp) (a b : E)
  | chain (o p : CmpOp) (a b c : E)
  | and (a b : E)
  | or (a b : E)
  | not (a : E)
  | ite (c a b : E)
  | truth (a : E)
  | call (f : Nat) (es : List E)
  | fn (m : Bool) (b : Bf) (es : List E)
  | meth (m : Mt) (o : E) (es : List E)
  | ix (a i : E)
  | cut (m : Bool) (a : E) (lo hi : Option E)
  | rev (m : Bool) (a : E)
  | lc (m : Bool) (own : List Nat) (tg : G) (it : E) (c : Option E) (e : E)
  | lrng (m : Bool) (a : E)
  | srts (a : E)
  | stp (a : E) (lo : Option E)
  | lower (a : E)
  | lset (a : E)
  | hcall (q : Nat)
  | callk (f n : Nat) (pm : List Nat) (es : List E)
  | rng1 (a : E)
  | rng2 (a b : E)
  | rng3 (a b d : E)
  | zip (a b : E)
  | isi (ks : List Kind) (e : E)
  | xat (f : Str)
  | xisi (cs : List Nat)
  | sm (m : Bool) (k : Sm) (a b : E)
  | call0 (f : Nat)
  | edic
  | cdic (kvs : List (List Nat × Int))
  | cget (a b z : E)
  | bad
  | tget (kvs : List (List Nat × D)) (a b : E)
  | dix (kvs : List (List Nat × D)) (a : E)
inductive S where
  | expr (e : E) | ret (e : E) | retN | pass | brk | cont
  | set (i : Nat) (e : E)
  | unp (is : List Nat) (e : E)
  | unl (is : List Nat) (e : E)
  | par (i j : Nat) (a b : E)
  | par3 (i j k : Nat) (a b e : E)
  | put (o i e : E)
  | aug (i : Nat) (o : Operator) (e : E)
  | ite (c : E) (a b : List S)
  | wh (c : E) (b : List S)
  | for (tg : G) (it : E) (b : List S)
  | raise (c : Nat) (es : List E)
  | try (b : List S) (hs : List (Nat × Option Nat × List S))

/-- a def: how many parameters, slots, its body; fz: what it made is let go at its end -/
structure Fn where
  np : Nat
  ns : Nat
  body : List S
  fz : Bool
/-- the exception classes: their fields in sequence, their own class's ancestors (numbers, itself among them) -/
structure Xc where
  flds : List Str
  up : List Nat
structure Pg where
  fns : List Fn
  xcs : List Xc
  live : Nat
  qns : List (Nat × List S)

/-! ### values -/
def lim : Nat := 16777216
mutual
def D.und (n : Nat) : D → Bool
  | .tup xs => D.undAll n xs
  | .tl xs => D.undAll n xs
  | .fl xs => D.undAll n xs
  | .ref k => decide (k < n)
  | _ => true
def D.undAll (n : Nat) : List D → Bool
  | [] => true
  | x :: xs => D.und n x && D.undAll n xs
end
def MO.und (n : Nat) : MO → Bool
  | .lst xs => D.undAll n xs
def MH.und (n : Nat) (M : MH) : Bool := M.all (MO.und n)
mutual
def toPy : D → Option PyData
  | .non => some .none
  | .bl b => some (.bool b)
  | .int i => some (.int i)
  | .str s => some (.str ⟨s.toArray⟩)
  | .tup xs => (toPys xs).map .tuple
  | .tl xs => (toPys xs).map .list
  | .fl xs => (toPys xs).map .list
  | .ref _ => none
  | .edic _ => none
def toPys : List D → Option (List PyData)
  | [] => some []
  | x :: xs => (toPy x).bind fun d => (toPys xs).map fun ds => d :: ds
end
/-- a list that may be written to -/
def lstAt (M : MH) (n : Nat) : Option (List D) :=
  match M[n]? with
  | some (.lst xs) => some xs
  | none => none
def toPyM (M : MH) : D → Option PyData
  | .ref n => (lstAt M n).bind fun xs => (toPys xs).map .list
  | d => toPy d
/-- the items of a list or a tuple -/
def seqOf (M : MH) : D → Option (List D)
  | .tup xs => some xs
  | .tl xs => some xs
  | .fl xs => some xs
  | .ref n => lstAt M n
  | _ => none
def tlOf (M : MH) : D → Option (List D)
  | .tl xs => some xs
  | .ref n => lstAt M n
  | _ => none
def newL (m : Bool) (xs : List D) (M : MH) : Res D := if m then .ok (.ref M.length) (M ++ [.lst xs]) else .ok (.tl xs) M
def intsL : List D → Option (List Int)
  | [] => some []
  | .int i :: r => (intsL r).map fun l => i :: l
  | _ => none
def strsL : List D → Option (List (List Nat))
  | [] => some []
  | .str s :: r => (strsL r).map fun l => s :: l
  | _ => none
def flat : D → Bool
  | .non => true | .bl _ => true | .int _ => true | .str _ => true
  | _ => false
def eqFlat : D → D → Bool
  | .non, .non => true
  | .bl a, .bl b => a == b
  | .bl a, .int b => (if a then 1 else 0) == b
  | .int a, .bl b => a == (if b then 1 else 0)
  | .int a, .int b => a == b
  | .str a, .str b => a == b
  | _, _ => false
def eqGen (M : MH) (a b : D) : Option Bool :=
  (toPyM M a).bind fun d => (toPyM M b).bind fun e => if PySem.SeqAt.shaped d && PySem.SeqAt.shaped e then some (PyData.eqv d e) else none
def eqD (M : MH) (a b : D) : Option Bool :=
  match a, b with
  | .int i, .int j => some (i == j)
  | .str x, .str y => some (x == y)
  | .bl x, .bl y => some (x == y)
  | .non, .non => some true
  | .int _, .str _ => some false
  | .str _, .int _ => some false
  | .non, .int _ => some false
  | .non, .str _ => some false
  | .non, .bl _ => some false
  | .int _, .non => some false
  | .str _, .non => some false
  | .bl _, .non => some false
  | a, b => eqGen M a b
def inGen (M : MH) (a b : D) : Option Bool :=
  (toPyM M a).bind fun d => (toPyM M b).bind fun e => match e with
    | .list ds => if PySem.SeqAt.shaped d && PySem.SeqAt.shaped (.list ds) then some (ds.any fun z => PyData.eqv z d) else none
    | _ => none
def truthD (M : MH) : D → Option Bool
  | .non => some false
  | .bl b => some b
  | .int i => some (i != 0)
  | .str s => some (!s.isEmpty)
  | d => (seqOf M d).map fun xs => !xs.isEmpty
def inD (M : MH) (a b : D) : Option Bool :=
  match a, b with
  | .str [c], .str s => some (decide (c ∈ s))
  | .str a, .str s => some (!(PySem.Builtin.Str.occurrences ⟨s.toArray⟩ ⟨a.toArray⟩ 0 s.length 1).isEmpty)
  | a, b => (seqOf M b).bind fun xs => if flat a && xs.all flat then some (xs.any fun y => eqFlat y a) else inGen M a b
def isNon : D → Bool
  | .non => true
  | _ => false
def cmpD (M : MH) (o : CmpOp) (a b : D) : Option Bool :=
  match o, a, b with
  | .Eq, a, b => eqD M a b
  | .NotEq, a, b => (eqD M a b).map not
  | .Lt, .int i, .int j => some (decide (i < j))
  | .LtE, .int i, .int j => some (decide (i ≤ j))
  | .Gt, .int i, .int j => some (decide (j < i))
  | .GtE, .int i, .int j => some (decide (j ≤ i))
  | .Lt, .str x, .str y => some (decide (x < y))
  | .In, a, b => inD M a b
  | .NotIn, a, b => (inD M a b).map not
  | .Is, a, .non => some (isNon a)
  | .IsNot, a, .non => some (!isNon a)
  | _, _, _ => none
def fits (i : Int) : Bool := decide (-(2 ^ 62) ≤ i) && decide (i < 2 ^ 62)
def smallI (i : Int) : Bool := decide (-(2 ^ 64) < i) && decide (i < 2 ^ 64)
/-- numbers of no more than ten thousand bits -/
def bigI (i j : Int) : Bool := decide (i.natAbs.log2 < 10000) && decide (j.natAbs.log2 < 10000)
def binD (m : Bool) (M : MH) (o : Operator) (a b : D) : Res D :=
  match o, a, b with
  | .Add, .int i, .int j => .ok (.int (i + j)) M
  | .Sub, .int i, .int j => .ok (.int (i - j)) M
  | .Mult, .int i, .int j => if smallI i || smallI j then .ok (.int (i * j)) M else if bigI i j then .ok (.int (i * j)) M else .stuck
  | .FloorDiv, .int i, .int j => if decide (j ≠ 0) && decide (j.natAbs < 1073741824) then .ok (.int (i.fdiv j)) M else .stuck
  | .Mod, .int i, .int j => if j ≠ 0 then .ok (.int (i.fmod j)) M else .stuck
  | .Pow, .int i, .int j => if decide (0 ≤ j) && decide (j ≤ 1000000) && decide (i.natAbs < 2 ^ 64) then .ok (.int (i ^ j.toNat)) M else .stuck
  | .LShift, .int i, .int j => if decide (0 ≤ j) && decide (j ≤ 1000000) && decide (i.natAbs < 2 ^ 64) then .ok (.int (i * 2 ^ j.toNat)) M else .stuck
  | .RShift, .int i, .int j => if 0 ≤ j then .ok (.int (i / 2 ^ j.toNat)) M else .stuck
  | .BitAnd, .int i, .int j => .ok (.int (PySem.Builtin.bitAnd i j)) M
  | .BitOr, .int i, .int j => .ok (.int (PySem.Builtin.bitOr i j)) M
  | .BitXor, .int i, .int j => .ok (.int (PySem.Builtin.bitXor i j)) M
  | .Add, .str x, .str y => if x.length + y.length ≤ lim then .ok (.str (x ++ y)) M else .stuck
  | .Add, .tup x, .tup y => if x.length + y.length ≤ lim then .ok (.tup (x ++ y)) M else .stuck
  | .Add, .tl x, b => (ofO (tlOf M b) M).bind fun y M => if x.length + y.length ≤ lim then newL m (x ++ y) M else .stuck
  | .Add, .ref n, b => (ofO (lstAt M n) M).bind fun x M => (ofO (tlOf M b) M).bind fun y M => if x.length + y.length ≤ lim then newL m (x ++ y) M else .stuck
  | .Mult, .str x, .int k => if decide (0 ≤ k) && decide (k ≤ 1000000) && decide (x.length * k.toNat ≤ lim) then .ok (.str (List.replicate k.toNat x).flatten) M else .stuck
  | .Mult, .tup x, .int k => if fits k && (x.isEmpty || decide (x.length * k.toNat ≤ 1000000)) then .ok (.tup (List.replicate k.toNat x).flatten) M else .stuck
  | .Mult, .tl x, .int k => if decide (0 ≤ k) && decide (k ≤ 1000000) && decide (x.length * k.toNat ≤ lim) then newL m (List.replicate k.toNat x).flatten M else .stuck
  | _, _, _ => .stuck
def joinS (sep : List Nat) : List (List Nat) → List Nat
  | [] => []
  | [p] => p
  | p :: q :: r => p ++ (sep ++ joinS sep (q :: r))
def maxI : List Int → Option Int
  | [] => none
  | [a] => some a
  | a :: r => (maxI r).map fun b => if b > a then b else a
def minI : List Int → Option Int
  | [] => none
  | [a] => some a
  | a :: r => (minI r).map fun b => if b < a then b else a
def digits (i : Int) : List Nat := (Str.ofString (toString i)).cps.toList
def insI (a : Int) : List Int → List Int
  | [] => [a]
  | b :: r => if a ≤ b then a :: b :: r else b :: insI a r
def sortI : List Int → List Int
  | [] => []
  | a :: r => insI a (sortI r)
def insS (a : List Nat) : List (List Nat) → List (List Nat)
  | [] => [a]
  | b :: r => if b < a then b :: insS a r else a :: b :: r
def sortS : List (List Nat) → List (List Nat)
  | [] => []
  | a :: r => insS a (sortS r)
def fnD (m : Bool) (M : MH) (b : Bf) (ds : List D) : Res D :=
  match b, ds with
  | .len, [.str s] => .ok (.int s.length) M
  | .len, [d] => (ofO (seqOf M d) M).bind fun xs M => .ok (.int xs.length) M
  | .abs, [.int i] => .ok (.int (if i < 0 then -i else i)) M
  | .int, [.int i] => .ok (.int i) M
  | .int, [.bl k] => .ok (.int (if k then 1 else 0)) M
  | .int, [.str s] => if s.length ≤ 640 then (ofO (PySem.intText? ⟨s.toArray⟩) M).bind fun n M => .ok (.int n) M else .stuck
  | .max2, [.int i, .int j] => .ok (.int (if j > i then j else i)) M
  | .min2, [.int i, .int j] => .ok (.int (if j < i then j else i)) M
  | .maxL, [d] => (ofO ((tlOf M d).bind intsL) M).bind fun l M => (ofO (maxI l) M).bind fun i M => .ok (.int i) M
  | .minL, [d] => (ofO ((tlOf M d).bind intsL) M).bind fun l M => (ofO (minI l) M).bind fun i M => .ok (.int i) M
  | .sum, [d] => (ofO ((tlOf M d).bind intsL) M).bind fun l M => .ok (.int l.sum) M
  | .list, [.str s] => newL m (s.map fun c => .str [c]) M
  | .list, [d] => (ofO (seqOf M d) M).bind fun xs M => newL m xs M
  | .tuple, [.str s] => .ok (.tup (s.map fun c => .str [c])) M
  | .tuple, [d] => (ofO (seqOf M d) M).bind fun xs M => .ok (.tup xs) M
  | .str, [.int i] => if decide (i.natAbs.log2 < 1920) && decide ((digits i).length ≤ lim) then .ok (.str (digits i)) M else .stuck
  | .sorted, [d] => (ofO ((tlOf M d).bind intsL) M).bind fun l M => if l.length < 64 then newL m ((sortI l).map .int) M else .stuck
  | _, _ => .stuck
def methD (M : MH) (t : Mt) (o : D) (ds : List D) : Res D :=
  match t, o, ds with
  | .append, .ref n, [d] => (ofO (lstAt M n) M).bind fun xs M => if xs.length < lim then .ok .non (M.set n (.lst (xs ++ [d]))) else .stuck
  | .pop0, .ref n, [] => (ofO (lstAt M n) M).bind fun xs M => (ofO (xs[xs.length - 1]?) M).bind fun d M => .ok d (M.set n (.lst xs.dropLast))
  | .pop1, .ref n, [.int i] => (ofO (lstAt M n) M).bind fun xs M => (ofO (if fits i then L2.ixN xs.length i else none) M).bind fun k M => (ofO (xs[k]?) M).bind fun d M => .ok d (M.set n (.lst (xs.eraseIdx k)))
  | .extend, .ref n, [b] => (ofO (lstAt M n) M).bind fun xs M => (ofO (tlOf M b) M).bind fun ys M => if xs.length + ys.length ≤ lim then .ok .non (M.set n (.lst (xs ++ ys))) else .stuck
  | .join, .str s, [d] => (ofO ((seqOf M d).bind strsL) M).bind fun l M => if (l.map List.length).sum + l.length * s.length ≤ 16777216 then .ok (.str (joinS s l)) M else .stuck
  | _, _, _ => .stuck
def recvOk (M : MH) (t : Mt) (x : D) : Bool :=
  match t, x with
  | .join, .str _ => true
  | .join, _ => false
  | _, .ref n => (lstAt M n).isSome
  | _, _ => false
def ixD (M : MH) (a i : D) : Option D :=
  match a, i with
  | .str s, .int k => (L2.atI s k).map fun c => .str [c]
  | a, .int k => (seqOf M a).bind fun xs => L2.atI xs k
  | _, _ => none
def cutL {α : Type} (xs : List α) (lo hi : Option Int) : List α := (xs.drop (HT.sIx xs.length 0 lo)).take (HT.sIx xs.length xs.length hi - HT.sIx xs.length 0 lo)
def cutD (m : Bool) (M : MH) (a : D) (lo hi : Option Int) : Res D :=
  match a with
  | .fl xs => newL m (cutL xs lo hi) M
  | .str s => .ok (.str (cutL s lo hi)) M
  | .tup xs => .ok (.tup (cutL xs lo hi)) M
  | d => (ofO (tlOf M d) M).bind fun xs M => newL m (cutL xs lo hi) M
def lo1 (c : Nat) : Nat := if 65 ≤ c ∧ c ≤ 90 then c + 32 else c
/-- s.lower(), signs below 128 alone -/
def lowD : D → Option D
  | .str s => if s.all (fun c => decide (c < 128)) && decide (s.length ≤ 5592405) then some (.str (s.map lo1)) else none
  | _ => none
/-- each once -/
def dist : List (List Nat) → List (List Nat)
  | [] => []
  | a :: r => if a ∈ r then dist r else a :: dist r
/-- every second -/
def evry {α : Type} : List α → List α
  | [] => []
  | [a] => [a]
  | a :: _ :: r => a :: evry r
def lo0 : Option Int → Nat
  | none => 0
  | some i => i.toNat
def loOk : Option Int → Bool
  | none => true
  | some i => decide (0 ≤ i)
/-- a[l::2] -/
def stpD (M : MH) (x : D) (l : Option Int) : Res D :=
  if loOk l then
    match x with
    | .str s => .ok (.str (evry (s.drop (lo0 l)))) M
    | .tup xs => .ok (.tup (evry (xs.drop (lo0 l)))) M
    | _ => .stuck
  else .stuck
def texD (M : MH) : D → Option (List (List Nat))
  | .str s => some (s.map fun c => [c])
  | x => (tlOf M x).bind strsL
def oneL : List (List Nat) → Bool
  | [] => true
  | [_] :: r => oneL r
  | _ => false
/-- texts of one sign, each once, in order -/
def srtT (l : List (List Nat)) : List (List Nat) := (sortI ((dist l).map fun s => ((s.headD 0 : Nat) : Int))).map fun i => [i.toNat]
/-- the named values in the parameters' order -/
def permL {α : Type} (pm : List Nat) (ws : List α) : List α := pm.filterMap (ws[·]?)
def revD (m : Bool) (M : MH) (a : D) : Res D :=
  match a with
  | .str s => .ok (.str s.reverse) M
  | .tup xs => .ok (.tup xs.reverse) M
  | d => (ofO (tlOf M d) M).bind fun xs M => newL m xs.reverse M
def revOk : D → Bool
  | .str _ => true
  | .tup _ => true
  | _ => false
/-- cut at each c -/
def splC (c : Nat) (acc : List Nat) : List Nat → List (List Nat)
  | [] => [acc]
  | x :: r => if x = c then acc :: splC c [] r else splC c (acc ++ [x]) r
/-- without the signs of t at both ends -/
def stripL (t s : List Nat) : List Nat := ((s.dropWhile fun c => decide (c ∈ t)).reverse.dropWhile fun c => decide (c ∈ t)).reverse
def isStrD : D → Bool
  | .str _ => true
  | _ => false
/-- a table of the module, read -/
def dixD (kvs : List (List Nat × D)) (x : D) : Option D :=
  match x with
  | .str s => kvs.lookup s
  | _ => none
def isCd : D → Bool
  | .edic _ => true
  | _ => false
def cgetD (x y w : D) : Option D :=
  match x, y with
  | .edic kvs, .str s => some (match kvs.lookup s with
    | some i => .int i
    | none => w)
  | _, _ => none
def tgetD (kvs : List (List Nat × D)) (x z : D) : D :=
  match x with
  | .str s => (kvs.lookup s).getD z
  | _ => z
def smD (m : Bool) (k : Sm) (M : MH) (x y : D) : Res D :=
  match k, x, y with
  | .split, .str s, .str [c] => if decide (c < 256) && decide (s.length + 2 ≤ lim) then newL m ((splC c [] s).map .str) M else .stuck
  | .strip, .str s, .str t => .ok (.str (stripL t s)) M
  | .starts, .str s, .str t => .ok (.bl (s.take t.length == t)) M
  | .ends, .str s, .str t => .ok (.bl (decide (t.length ≤ s.length) && s.drop (s.length - t.length) == t)) M
  | _, _, _ => .stuck
def kindOf : D → Option Kind
  | .non => none
  | .bl _ => some .bool
  | .int _ => some .int
  | .str _ => some .str
  | .tup _ => some .tuple
  | .tl _ => some .list
  | .fl _ => some .list
  | .ref _ => some .list
  | .edic _ => none
def isKind (ks : List Kind) (d : D) : Bool :=
  ks.any fun k => match k, kindOf d with
    | .int, some .bool => true
    | k, some k' => decide (k = k')
    | _, none => false
def putD (M : MH) (o i v : D) : Option MH :=
  match o, i with
  | .ref n, .int k => (lstAt M n).bind fun xs => (L2.ixN xs.length k).map fun j => M.set n (.lst (xs.set j v))
  | _, _ => none
/-- x op= y at a name -/
def augD (M : MH) (o : Operator) (x y : D) : Res D :=
  match o, x, y with
  | .Add, .int i, .int j => .ok (.int (i + j)) M
  | .Sub, .int i, .int j => .ok (.int (i - j)) M
  | .Mult, .int i, .int j => if smallI i || smallI j then .ok (.int (i * j)) M else .stuck
  | .Add, .str x, .str y => if x.length + y.length ≤ lim then .ok (.str (x ++ y)) M else .stuck
  | _, _, _ => .stuck
/-- what a loop walks: its items, the list that must stay as it is -/
def itemsD (M : MH) : D → Option (List D × Option Nat)
  | .tup xs => some (xs, none)
  | .tl xs => some (xs, none)
  | .fl xs => some (xs, none)
  | .str s => some (s.map fun c => .str [c], none)
  | .ref n => (lstAt M n).map fun xs => (xs, some n)
  | _ => none
mutual
def D.same : D → D → Bool
  | .non, .non => true
  | .bl a, .bl b => a == b
  | .int a, .int b => a == b
  | .str a, .str b => a == b
  | .tup a, .tup b => D.sames a b
  | .tl a, .tl b => D.sames a b
  | .fl a, .fl b => D.sames a b
  | .ref a, .ref b => a == b
  | .edic a, .edic b => decide (a = b)
  | _, _ => false
def D.sames : List D → List D → Bool
  | [], [] => true
  | a :: as, b :: bs => D.same a b && D.sames as bs
  | _, _ => false
end
/-- the list that a loop walks is as it was -/
def stays (M : MH) (all : List D) : Option Nat → Bool
  | none => true
  | some n => match lstAt M n with
    | some xs => D.sames xs all
    | none => false
def rngL (lo : Int) (n : Nat) : List D := (List.range n).map fun (k : Nat) => D.int (lo + (k : Int))
def rng1D (d : D) : Option (List D) :=
  match d with
  | .int j => if fits j then some (rngL 0 j.toNat) else none
  | _ => none
def rngS (d : D) : Option (List D) :=
  match d with
  | .int j => if decide (-(2 ^ 62) ≤ j) && decide (j ≤ 16777216) then some (rngL 0 j.toNat) else none
  | _ => none
def rncL (lo k : Int) (n : Nat) : List D := (List.range n).map fun (j : Nat) => D.int (lo + (j : Int) * k)
def rng3D (d e f : D) : Option (List D) :=
  match d, e, f with
  | .int i, .int j, .int k => if decide (k ≠ 0) && (decide (k.natAbs < 1073741824) && (PySem.Builtin.Range.small i j k && decide (0 ≤ PySem.Builtin.Range.rangeSize i j k))) then some (rncL i k (PySem.Builtin.Range.rangeSize i j k).toNat) else none
  | _, _, _ => none
def rng2D (d e : D) : Option (List D) :=
  match d, e with
  | .int i, .int j => if fits i && fits j then some (rngL i (j - i).toNat) else none
  | _, _ => none
/-- a list that stays as it is -/
def lfOf : D → Option (List D)
  | .tl xs => some xs
  | .fl xs => some xs
  | _ => none
def zipT (xs ys : List D) : List D := (xs.zip ys).map fun p => .tup [p.1, p.2]
def zipD (a b : D) : Option (List D) :=
  match a, b with
  | .tup xs, .tup ys => some (zipT xs ys)
  | a, b => (lfOf a).bind fun xs => (lfOf b).map fun ys => zipT xs ys
def setAll : List Nat → List D → Env → Env
  | i :: is, d :: ds, ρ => setAll is ds (ρ.set i (some d))
  | _, _, ρ => ρ
def bindG : G → D → Env → Option Env
  | .one i, d, ρ => some (ρ.set i (some d))
  | .tup is, .tup ds, ρ => if is.length = ds.length then some (setAll is ds ρ) else none
  | _, _, _ => none
def wipeE (ρ : Env) : List Nat → Env
  | [] => ρ
  | v :: vs => (wipeE ρ vs).set v none
def startE (ns : Nat) (ds : List D) : Env := ds.map some ++ List.replicate (ns - ds.length) none

/-! ### the step -/
/-- the frame's constants: the calls that may still be nested, the exception that is handled -/
structure Cf where
  d : Nat
  x : Option (Nat × Flds)
structure Sys where
  e : Cf → E → Env → MH → Res D
  es : Cf → List E → Env → MH → Res (List D)
  s : Cf → S → Env → MH → SRes
  ss : Cf → List S → Env → MH → SRes
  f : Nat → Nat → List D → MH → Res D
def bot : Sys where
  e := fun _ _ _ _ => .stuck
  es := fun _ _ _ _ => .stuck
  s := fun _ _ _ _ => .stuck
  ss := fun _ _ _ _ => .stuck
  f := fun _ _ _ _ => .stuck

def noExn {α : Type} : Res α → Res α
  | .exn _ _ _ => .stuck
  | r => r
/-- a test's outcome -/
def asBl : D → Option Bool
  | .bl b => some b
  | _ => none
def tst (r : Res D) (k : Bool → MH → Res D) : Res D := r.bind fun d M => (ofO (asBl d) M).bind k
def asI : D → Option Int
  | .int i => some i
  | _ => none
def optE (s : Sys) (c : Cf) (o : Option E) (ρ : Env) (M : MH) : Res (Option Int) :=
  match o with
  | none => .ok none M
  | some e => (s.e c e ρ M).bind fun d M => (ofO (asI d) M).bind fun i M => .ok (some i) M
/-- what an expression walks -/
def itE (s : Sys) (c : Cf) (it : E) (ρ : Env) (M : MH) : Res (List D × Option Nat) :=
  match it with
  | .rng1 a => (s.e c a ρ M).bind fun x M => (ofO (rng1D x) M).bind fun l M => .ok (l, none) M
  | .rng2 a b => (s.e c a ρ M).bind fun x M => (s.e c b ρ M).bind fun y M => (ofO (rng2D x y) M).bind fun l M => .ok (l, none) M
  | .rng3 a b d => (s.e c a ρ M).bind fun x M => (s.e c b ρ M).bind fun y M => (s.e c d ρ M).bind fun z M => (ofO (rng3D x y z) M).bind fun l M => .ok (l, none) M
  | .zip a b => (s.e c a ρ M).bind fun x M => (s.e c b ρ M).bind fun y M => (ofO (zipD x y) M).bind fun l M => .ok (l, none) M
  | it => (s.e c it ρ M).bind fun d M => ofO (itemsD M d) M

def tests (s : Sys) (c : Cf) (t : Option E) (ρ : Env) (M : MH) : Res Bool :=
  match t with
  | none => .ok true M
  | some t => (s.e c t ρ M).bind fun d M => ofO (asBl d) M
/-- a comprehension's turns: ρ ahead of the target's store -/
def lcL (s : Sys) (c : Cf) (tg : G) (all : List D) (chk : Option Nat) (t : Option E) (e : E) (ρ : Env) : List D → List D → MH → Res (List D)
  | [], acc, M => if stays M all chk then .ok acc M else .stuck
  | x :: xs, acc, M => if stays M all chk then
      (ofO (bindG tg x ρ) M).bind fun ρ' M => (tests s c t ρ' M).bind fun k M =>
        if k then (s.e c e ρ' M).bind fun d M => if acc.length < lim then lcL s c tg all chk t e ρ xs (acc ++ [d]) M else .stuck
        else lcL s c tg all chk t e ρ xs acc M
    else .stuck
/-- what a def gives back -/
def hres : SRes → Res D
  | .rt d M => .ok d M
  | .nx _ M => .ok .non M
  | _ => .stuck
def stepE (P : Pg) (s : Sys) (c : Cf) (e : E) (ρ : Env) (M : MH) : Res D :=
  match e with
  | .var i => match ρ[i]? with
    | some (some d) => .ok d M
    | _ => .stuck
  | .con d => .ok d M
  | .tup es => (s.es c es ρ M).bind fun ds M => if ds.length ≤ lim then .ok (.tup ds) M else .stuck
  | .lst m es => (s.es c es ρ M).bind fun ds M => if ds.length ≤ lim then newL m ds M else .stuck
  | .bin m o a b => (s.e c a ρ M).bind fun x M => (s.e c b ρ M).bind fun y M => binD m M o x y
  | .neg a => (s.e c a ρ M).bind fun x M => (ofO (asI x) M).bind fun i M => .ok (.int (-i)) M
  | .cmp o a b => (s.e c a ρ M).bind fun x M => (s.e c b ρ M).bind fun y M => (ofO (cmpD M o x y) M).bind fun k M => .ok (.bl k) M
  | .chain o p a b e => (s.e c a ρ M).bind fun x M => (s.e c b ρ M).bind fun y M => (ofO (cmpD M o x y) M).bind fun k M =>
      if k then (s.e c e ρ M).bind fun z M => (ofO (cmpD M p y z) M).bind fun k M => .ok (.bl k) M else .ok (.bl false) M
  | .and a b => tst (s.e c a ρ M) fun k M => if k then tst (s.e c b ρ M) fun k M => .ok (.bl k) M else .ok (.bl false) M
  | .or a b => tst (s.e c a ρ M) fun k M => if k then .ok (.bl true) M else tst (s.e c b ρ M) fun k M => .ok (.bl k) M
  | .not a => tst (s.e c a ρ M) fun k M => .ok (.bl (!k)) M
  | .ite t a b => tst (s.e c t ρ M) fun k M => if k then s.e c a ρ M else s.e c b ρ M
  | .truth a => (s.e c a ρ M).bind fun x M => (ofO (truthD M x) M).bind fun k M => .ok (.bl k) M
  | .call f es => (s.es c es ρ M).bind fun ds M => s.f c.d f ds M
  | .fn m b es => (s.es c es ρ M).bind fun ds M => fnD m M b ds
  | .meth t o es => (s.e c o ρ M).bind fun x M => if recvOk M t x then (s.es c es ρ M).bind fun ds M => methD M t x ds else .stuck
  | .ix a i => (s.e c a ρ M).bind fun x M => (s.e c i ρ M).bind fun y M => ofO (ixD M x y) M
  | .cut m a lo hi => (s.e c a ρ M).bind fun x M => (optE s c lo ρ M).bind fun l M => (optE s c hi ρ M).bind fun h M => cutD m M x l h
  | .rev m a => (s.e c a ρ M).bind fun x M => revD m M x
  | .lc m own tg it t e => (itE s c it ρ M).bind fun p M => (noExn (lcL s c tg p.1 p.2 t e (wipeE ρ own) p.1 [] M)).bind fun l M => newL m l M
  | .lrng m a => (s.e c a ρ M).bind fun x M => (ofO (rngS x) M).bind fun l M => newL m l M
  | .lower a => (s.e c a ρ M).bind fun x M => (ofO (lowD x) M).bind fun d M => .ok d M
  | .lset a => (s.e c a ρ M).bind fun x M => (ofO (texD M x) M).bind fun l M => if l.length < 1000 then .ok (.int (dist l.reverse).length) M else .stuck
  | .stp a lo => (s.e c a ρ M).bind fun x M => (optE s c lo ρ M).bind fun l M => stpD M x l
  | .srts a => (s.e c a ρ M).bind fun x M => (ofO (texD M x) M).bind fun l M => if decide (l.length < 1000) && (oneL l && decide ((dist l.reverse).length < 64)) then .ok (.tl ((srtT l.reverse).map .str)) M else .stuck
  | .hcall q => match c.d, c.x, P.qns[q]? with
    | d + 1, some x, some t => hres (s.ss ⟨d, some x⟩ t.2 (List.replicate t.1 none) M)
    | _, _, _ => .stuck
  | .callk f n pm es => (s.es c es ρ M).bind fun ds M => if ds.length = n then s.f c.d f (permL pm ds) M else .stuck
  | .rng1 _ => .stuck
  | .rng2 _ _ => .stuck
  | .rng3 _ _ _ => .stuck
  | .zip _ _ => .stuck
  | .isi ks a => (s.e c a ρ M).bind fun x M => .ok (.bl (isKind ks x)) M
  | .xat f => match c.x with
    | some (_, fs) => ofO (fs.lookup f) M
    | none => .stuck
  | .xisi cs => match c.x with
    | some (k, _) => match P.xcs[k]? with
      | some x => .ok (.bl (cs.any fun j => decide (j ∈ x.up))) M
      | none => .stuck
    | none => .stuck
  | .sm m k a b => (s.e c a ρ M).bind fun x M => if isStrD x then (s.e c b ρ M).bind fun y M => smD m k M x y else .stuck
  | .call0 f => noExn (s.f c.d f [] M)
  | .edic => .ok (.edic []) M
  | .cdic kvs => .ok (.edic kvs) M
  | .cget a b z => (s.e c a ρ M).bind fun x M => if isCd x then (s.e c b ρ M).bind fun y M => (s.e c z ρ M).bind fun w M => ofO (cgetD x y w) M else .stuck
  | .bad => .stuck
  | .dix kvs a => (s.e c a ρ M).bind fun x M => ofO (dixD kvs x) M
  | .tget kvs a b => (s.e c a ρ M).bind fun x M => if isStrD x then (s.e c b ρ M).bind fun z M => .ok (tgetD kvs x z) M else .stuck
def stepEs (s : Sys) (c : Cf) (es : List E) (ρ : Env) (M : MH) : Res (List D) :=
  match es with
  | [] => .ok [] M
  | e :: es => (s.e c e ρ M).bind fun d M => (s.es c es ρ M).bind fun ds M => .ok (d :: ds) M
def zipF : List Str → List D → Flds
  | f :: fs, d :: ds => (f, d) :: zipF fs ds
  | _, _ => []
def clause (P : Pg) (k : Nat) : List (Nat × Option Nat × List S) → Option (Option Nat × List S)
  | [] => none
  | (j, n, b) :: hs => match P.xcs[k]? with
    | some x => if j ∈ x.up then some (n, b) else clause P k hs
    | none => none
def gone (n : Option Nat) (ρ : Env) : Env :=
  match n with
  | none => ρ
  | some i => ρ.set i none
def slotIn (n : Option Nat) (ρ : Env) : Bool :=
  match n with
  | none => true
  | some i => decide (i < ρ.length)
def SRes.map (f : Env → Env) : SRes → SRes
  | .nx r M => .nx (f r) M
  | .bk r M => .bk (f r) M
  | .ct r M => .ct (f r) M
  | .rt d M => .rt d M
  | .exn _ _ _ _ => .stuck
  | .stuck => .stuck
/-- a loop's turns -/
def forL (s : Sys) (c : Cf) (tg : G) (all : List D) (chk : Option Nat) (b : List S) : List D → Env → MH → SRes
  | [], ρ, M => if stays M all chk then .nx ρ M else .stuck
  | x :: xs, ρ, M => if stays M all chk then
      match bindG tg x ρ with
      | none => .stuck
      | some ρ => match s.ss c b ρ M with
        | .nx ρ M => forL s c tg all chk b xs ρ M
        | .ct ρ M => forL s c tg all chk b xs ρ M
        | .bk ρ M => .nx ρ M
        | r => r
    else .stuck
def stepS (P : Pg) (s : Sys) (c : Cf) (t : S) (ρ : Env) (M : MH) : SRes :=
  match t with
  | .expr e => (s.e c e ρ M).sbind ρ fun _ M => .nx ρ M
  | .ret e => (s.e c e ρ M).sbind ρ fun d M => .rt d M
  | .retN => .rt .non M
  | .pass => .nx ρ M
  | .brk => .bk ρ M
  | .cont => .ct ρ M
  | .set i e => (s.e c e ρ M).sbind ρ fun d M => .nx (ρ.set i (some d)) M
  | .unp is e => (s.e c e ρ M).sbind ρ fun d M => match bindG (.tup is) d ρ with
    | some ρ' => .nx ρ' M
    | none => .stuck
  | .unl is e => (s.e c e ρ M).sbind ρ fun d M => match tlOf M d with
    | some xs => if is.length = xs.length then .nx (setAll is xs ρ) M else .stuck
    | none => .stuck
  | .par i j a b => (s.e c a ρ M).sbind ρ fun x M => (s.e c b ρ M).sbind ρ fun y M => .nx ((ρ.set i (some x)).set j (some y)) M
  | .par3 i j k a b e => (s.e c a ρ M).sbind ρ fun x M => (s.e c b ρ M).sbind ρ fun y M => (s.e c e ρ M).sbind ρ fun z M => .nx (((ρ.set i (some x)).set j (some y)).set k (some z)) M
  | .put o i e => (s.e c e ρ M).sbind ρ fun v M => (s.e c o ρ M).sbind ρ fun x M => (s.e c i ρ M).sbind ρ fun y M => match putD M x y v with
    | some M => .nx ρ M
    | none => .stuck
  | .aug i o e => match ρ[i]? with
    | some (some x) => (s.e c e ρ M).sbind ρ fun y M => (augD M o x y).sbind ρ fun d M => .nx (ρ.set i (some d)) M
    | _ => .stuck
  | .ite t a b => (s.e c t ρ M).sbind ρ fun d M => match asBl d with
    | some true => s.ss c a ρ M
    | some false => s.ss c b ρ M
    | none => .stuck
  | .wh t b => (s.e c t ρ M).sbind ρ fun d M => match asBl d with
    | some true => match s.ss c b ρ M with
      | .nx ρ M => s.s c (.wh t b) ρ M
      | .ct ρ M => s.s c (.wh t b) ρ M
      | .bk ρ M => .nx ρ M
      | r => r
    | some false => .nx ρ M
    | none => .stuck
  | .for tg it b => (itE s c it ρ M).sbind ρ fun p M => forL s c tg p.1 p.2 b p.1 ρ M
  | .raise k es => (s.es c es ρ M).sbind ρ fun ds M => match P.xcs[k]? with
    | some x => if x.flds.length = ds.length then .exn k (zipF x.flds ds) ρ M else .stuck
    | none => .stuck
  | .try b hs => match s.ss c b ρ M with
    | .exn k fs ρ M => if k < P.live then match clause P k hs with
      | some (n, b) => if slotIn n ρ then (s.ss { c with x := some (k, fs) } b (gone n ρ) M).map (gone n) else .stuck
      | none => .exn k fs ρ M
      else .stuck
    | r => r
def stepSs (s : Sys) (c : Cf) (ts : List S) (ρ : Env) (M : MH) : SRes :=
  match ts with
  | [] => .nx ρ M
  | t :: ts => (s.s c t ρ M).sbind fun ρ M => s.ss c ts ρ M
/-- what a def made is let go: a list that it hands back is handed back whole -/
def freeze (n : Nat) (d : D) (M : MH) : Res D :=
  match d with
  | .ref k => if k < n then (if MH.und n (M.take n) then .ok (.ref k) (M.take n) else .stuck) else
    match lstAt M k with
    | some xs => if D.undAll n xs && MH.und n (M.take n) then .ok (.tl xs) (M.take n) else .stuck
    | none => .stuck
  | d => if D.und n d && MH.und n (M.take n) then .ok d (M.take n) else .stuck
def endF (fz : Bool) (n : Nat) (r : SRes) : Res D :=
  match r with
  | .rt d M => if fz then freeze n d M else .ok d M
  | .nx _ M => if fz then freeze n .non M else .ok .non M
  | .exn k fs _ M => if fz then (if D.undAll n (fs.map (·.2)) && MH.und n (M.take n) then .exn k fs (M.take n) else .stuck) else .exn k fs M
  | _ => .stuck
def stepF (P : Pg) (s : Sys) (d f : Nat) (ds : List D) (M : MH) : Res D :=
  match d, P.fns[f]? with
  | d + 1, some t => if ds.length = t.np then endF t.fz M.length (s.ss ⟨d, none⟩ t.body (startE t.ns ds) M) else .stuck
  | _, _ => .stuck
def step (P : Pg) (s : Sys) : Sys where
  e := stepE P s
  es := stepEs s
  s := stepS P s
  ss := stepSs s
  f := stepF P s
def sys (P : Pg) : Nat → Sys
  | 0 => bot
  | n + 1 => step P (sys P n)
end LX

set_option Elab.async false
set_option linter.all false
set_option maxRecDepth 100000
/-! LxRep: how values and heaps of the IR stand for those of the hand layer. -/
namespace LX
open PySem L2
theorem lim_eq : sizeLine = lim := sizeLine_eq

/-- a list that is never written by what we know: known to the object, or of the written part -/
def SqF (K : PySem.W.Frag) (H : Hp) (a : Addr) (xs : List V) : Prop :=
  (∃ o, H a = some (.frz o (.lst xs))) ∨
    ∃ (o : Obj) (its : Array Value) (n : Nat), K.lookup a = some o ∧ o.cls = .type "list" ∧ o.dict = none ∧ o.data = .seq its n ∧ its.size ≤ sizeLine ∧ Vals xs its.toList
theorem SqF.sq {K : PySem.W.Frag} {H : Hp} {a : Addr} {xs : List V} (h : SqF K H a xs) : SqL K H a xs := by
  rcases h with h | h
  · exact .inl (.inr h)
  · exact .inr h
/-- where the lists stand that are written to; the lists that are being made and no value knows of -/
structure Bt where
  f : Nat → Addr
  p : List Addr
instance : CoeFun Bt fun _ => Nat → Addr := ⟨Bt.f⟩
/-- the entries of a dict of numbers under texts -/
def kvI (kvs : List (List Nat × Int)) : List (L2.Key × V) := kvs.map fun p => (Sum.inr ⟨p.1.toArray⟩, .int p.2)
section
variable (K : PySem.W.Frag) (H : Hp) (β : Bt) (N : Nat)
mutual
def Rep : D → V → Prop
  | .non, v => v = .non
  | .bl b, v => v = .bl b
  | .int i, v => v = .int i
  | .str s, v => s.length ≤ lim ∧ v = .str ⟨s.toArray⟩
  | .tup xs, v => ∃ a vs, v = .ref a ∧ SqT K H a vs ∧ Reps xs vs
  | .tl xs, v => ∃ a vs, v = .ref a ∧ H a = some (.lst vs) ∧ ((∀ n, n < N → β n ≠ a) ∧ a ∉ β.p) ∧ Reps xs vs
  | .fl xs, v => ∃ a vs, v = .ref a ∧ SqF K H a vs ∧ Reps xs vs
  | .ref n, v => n < N ∧ v = .ref (β n)
  | .edic kvs, v => ∃ a, v = .ref a ∧ H a = some (.dK (kvI kvs)) ∧ ((∀ n, n < N → β n ≠ a) ∧ a ∉ β.p)
def Reps : List D → List V → Prop
  | [], vs => vs = []
  | d :: ds, vs => ∃ v r, vs = v :: r ∧ Rep d v ∧ Reps ds r
end
def RepO : MO → Addr → Prop
  | .lst xs, a => ∃ vs, H a = some (.lst vs) ∧ Reps K H β N xs vs
end
/-- the heap M stands in H by β -/
structure HeapR (K : PySem.W.Frag) (H : Hp) (β : Bt) (M : MH) : Prop where
  cell : ∀ n o, M[n]? = some o → RepO K H β M.length o (β n)
  inj : ∀ m n, m < M.length → n < M.length → β m = β n → m = n
  prot : ∀ a, a ∈ β.p → H a ≠ none
/-- the names' values -/
structure EnvR (K : PySem.W.Frag) (H : Hp) (β : Bt) (N : Nat) (ρ : Env) (σ : St) : Prop where
  len : σ.length = ρ.length
  val : ∀ (i : Nat) (d : D), ρ[i]? = some (some d) → ∃ v, σ[i]? = some (some v) ∧ Rep K H β N d v
/-- from one moment to a later one -/
structure Ext (β : Bt) (N : Nat) (H : Hp) (β' : Bt) (N' : Nat) (H' : Hp) : Prop where
  le : N ≤ N'
  agree : ∀ n, n < N → β' n = β n
  fr : ∀ a o, H a = some o → (∀ n, n < N → β n ≠ a) → H' a = some o
  new : ∀ n, N ≤ n → n < N' → H (β' n) = none
  tr : ∀ a, H' a = none → H a = none
  pp : β'.p = β.p
theorem Ext.refl (β : Bt) (N : Nat) (H : Hp) : Ext β N H β N H := ⟨Nat.le_refl _, fun _ _ => rfl, fun _ _ h _ => h, fun n h1 h2 => absurd h2 (Nat.not_lt.mpr h1), fun _ h => h, rfl⟩
theorem Ext.trans {β β1 β2 : Bt} {N N1 N2 : Nat} {H H1 H2 : Hp} (e : Ext β N H β1 N1 H1) (f : Ext β1 N1 H1 β2 N2 H2) : Ext β N H β2 N2 H2 := by
  have fr1 : ∀ a o, H a = some o → (∀ n, n < N → β n ≠ a) → ∀ n, n < N1 → β1 n ≠ a := fun a o h hn n hl z => by
    by_cases hN : n < N
    · exact hn n hN ((e.agree n hN).symm.trans z)
    · have q := e.new n (Nat.le_of_not_lt hN) hl
      rw [z, h] at q
      cases q
  refine ⟨Nat.le_trans e.le f.le, fun n h => (f.agree n (Nat.lt_of_lt_of_le h e.le)).trans (e.agree n h), fun a o h hn => f.fr a o (e.fr a o h hn) (fr1 a o h hn), fun n h1 h2 => ?_, fun a h => e.tr a (f.tr a h), f.pp.trans e.pp⟩
  by_cases hN : n < N1
  · rw [f.agree n hN]
    exact e.new n h1 hN
  · exact e.tr _ (f.new n (Nat.le_of_not_lt hN) h2)
section
variable {K : PySem.W.Frag} {H H' : Hp} {β β' : Bt} {N N' : Nat} {M : MH}
theorem HeapR.ncell (h : HeapR K H β M) {a : Addr} {o : HO} (e : H a = some o) (no : ∀ vs, o ≠ .lst vs) : ∀ n, n < M.length → β n ≠ a := fun n hn z => by
  obtain ⟨m, hm⟩ : ∃ m, M[n]? = some m := ⟨_, List.getElem?_eq_getElem hn⟩
  have q := h.cell n m hm
  cases m with
  | lst xs =>
    obtain ⟨vs, q, _⟩ := q
    rw [z, e] at q
    exact no vs (Option.some.inj q)
theorem Ext.sqT (h : HeapR K H β M) (e : Ext β M.length H β' N' H') {a : Addr} {vs : List V} (q : SqT K H a vs) : SqT K H' a vs := by
  rcases q with (q | ⟨o, q⟩) | q
  · exact .inl (.inl (e.fr _ _ q (h.ncell q fun _ z => by cases z)))
  · exact .inl (.inr ⟨o, e.fr _ _ q (h.ncell q fun _ z => by cases z)⟩)
  · exact .inr q
theorem Ext.sqF (h : HeapR K H β M) (e : Ext β M.length H β' N' H') {a : Addr} {vs : List V} (q : SqF K H a vs) : SqF K H' a vs := by
  rcases q with ⟨o, q⟩ | q
  · exact .inl ⟨o, e.fr _ _ q (h.ncell q fun _ z => by cases z)⟩
  · exact .inr q
mutual
theorem Rep.mono (h : HeapR K H β M) (e : Ext β M.length H β' N' H') : ∀ {d : D} {v : V}, Rep K H β M.length d v → Rep K H' β' N' d v
  | .non, _, r => r
  | .bl _, _, r => r
  | .int _, _, r => r
  | .str _, _, r => r
  | .tup xs, v, r => by
    unfold Rep at r ⊢
    obtain ⟨a, vs, rfl, q, rs⟩ := r
    exact ⟨a, vs, rfl, e.sqT h q, Reps.mono h e rs⟩
  | .tl xs, v, r => by
    unfold Rep at r ⊢
    obtain ⟨a, vs, rfl, q, hn, rs⟩ := r
    refine ⟨a, vs, rfl, e.fr _ _ q hn.1, ⟨fun n hl z => ?_, by rw [e.pp]; exact hn.2⟩, Reps.mono h e rs⟩
    by_cases hN : n < M.length
    · exact hn.1 n hN ((e.agree n hN).symm.trans z)
    · have w := e.new n (Nat.le_of_not_lt hN) hl
      rw [z, q] at w
      cases w
  | .fl xs, v, r => by
    unfold Rep at r ⊢
    obtain ⟨a, vs, rfl, q, rs⟩ := r
    exact ⟨a, vs, rfl, e.sqF h q, Reps.mono h e rs⟩
  | .ref n, v, r => by
    unfold Rep at r ⊢
    obtain ⟨hn, rfl⟩ := r
    exact ⟨Nat.lt_of_lt_of_le hn e.le, by rw [e.agree n hn]⟩
  | .edic kvs, v, r => by
    unfold Rep at r ⊢
    obtain ⟨a, rfl, q, hn⟩ := r
    refine ⟨a, rfl, e.fr _ _ q hn.1, ⟨fun n hl z => ?_, by rw [e.pp]; exact hn.2⟩⟩
    by_cases hN : n < M.length
    · exact hn.1 n hN ((e.agree n hN).symm.trans z)
    · have w := e.new n (Nat.le_of_not_lt hN) hl
      rw [z, q] at w
      cases w
theorem Reps.mono (h : HeapR K H β M) (e : Ext β M.length H β' N' H') : ∀ {ds : List D} {vs : List V}, Reps K H β M.length ds vs → Reps K H' β' N' ds vs
  | [], _, r => r
  | d :: ds, vs, r => by
    unfold Reps at r ⊢
    obtain ⟨v, w, rfl, r1, r2⟩ := r
    exact ⟨v, w, rfl, Rep.mono h e r1, Reps.mono h e r2⟩
end
theorem EnvR.mono {ρ : Env} {σ : St} (h : HeapR K H β M) (e : Ext β M.length H β' N' H') (r : EnvR K H β M.length ρ σ) : EnvR K H' β' N' ρ σ :=
  ⟨r.len, fun i d q => let ⟨v, q1, q2⟩ := r.val i d q; ⟨v, q1, Rep.mono h e q2⟩⟩
theorem Reps.length : ∀ {ds : List D} {vs : List V}, Reps K H β N ds vs → vs.length = ds.length
  | [], _, r => by unfold Reps at r; rw [r]; rfl
  | d :: ds, _, r => by
    unfold Reps at r
    obtain ⟨v, w, rfl, _, r2⟩ := r
    rw [List.length_cons, List.length_cons, Reps.length r2]
theorem Reps.get : ∀ {ds : List D} {vs : List V} {i : Nat} {d : D}, Reps K H β N ds vs → ds[i]? = some d → ∃ v, vs[i]? = some v ∧ Rep K H β N d v
  | [], _, _, _, _, e => by simp at e
  | x :: ds, _, 0, d, r, e => by
    unfold Reps at r
    obtain ⟨v, w, rfl, r1, _⟩ := r
    have : x = d := by simpa using e
    subst this
    exact ⟨v, rfl, r1⟩
  | x :: ds, _, i + 1, d, r, e => by
    unfold Reps at r
    obtain ⟨v, w, rfl, _, r2⟩ := r
    obtain ⟨u, q1, q2⟩ := Reps.get (i := i) r2 (by simpa using e)
    exact ⟨u, by simpa using q1, q2⟩
theorem Reps.append : ∀ {ds es : List D} {vs ws : List V}, Reps K H β N ds vs → Reps K H β N es ws → Reps K H β N (ds ++ es) (vs ++ ws)
  | [], _, _, _, r, q => by unfold Reps at r; subst r; exact q
  | x :: ds, _, _, _, r, q => by
    unfold Reps at r
    obtain ⟨v, w, rfl, r1, r2⟩ := r
    show Reps K H β N (x :: (ds ++ _)) _
    unfold Reps
    exact ⟨v, w ++ _, rfl, r1, Reps.append r2 q⟩
theorem Reps.nil : Reps K H β N [] [] := by unfold Reps; rfl
theorem Reps.cons {d : D} {ds : List D} {v : V} {vs : List V} (r : Rep K H β N d v) (q : Reps K H β N ds vs) : Reps K H β N (d :: ds) (v :: vs) := by unfold Reps; exact ⟨v, vs, rfl, r, q⟩
theorem Reps.nilI {vs : List V} (r : Reps K H β N [] vs) : vs = [] := by unfold Reps at r; exact r
theorem Reps.consI {d : D} {ds : List D} {vs : List V} (r : Reps K H β N (d :: ds) vs) : ∃ v w, vs = v :: w ∧ Rep K H β N d v ∧ Reps K H β N ds w := by unfold Reps at r; exact r
theorem Reps.one {d : D} {v : V} (r : Rep K H β N d v) : Reps K H β N [d] [v] := .cons r .nil
theorem Reps.set : ∀ {ds : List D} {vs : List V} {d : D} {v : V} (i : Nat), Reps K H β N ds vs → Rep K H β N d v → Reps K H β N (ds.set i d) (vs.set i v)
  | [], _, _, _, _, r, _ => by unfold Reps at r; subst r; exact .nil
  | x :: ds, _, d, v, 0, r, q => by
    unfold Reps at r
    obtain ⟨u, w, rfl, _, r2⟩ := r
    exact .cons q r2
  | x :: ds, _, d, v, i + 1, r, q => by
    unfold Reps at r
    obtain ⟨u, w, rfl, r1, r2⟩ := r
    exact .cons r1 (Reps.set i r2 q)
theorem Reps.take : ∀ {ds : List D} {vs : List V} (n : Nat), Reps K H β N ds vs → Reps K H β N (ds.take n) (vs.take n)
  | _, _, 0, _ => by rw [List.take_zero, List.take_zero]; exact .nil
  | [], _, n + 1, r => by unfold Reps at r; subst r; exact .nil
  | x :: ds, _, n + 1, r => by
    unfold Reps at r
    obtain ⟨u, w, rfl, r1, r2⟩ := r
    exact .cons r1 (Reps.take n r2)
theorem Reps.drop : ∀ {ds : List D} {vs : List V} (n : Nat), Reps K H β N ds vs → Reps K H β N (ds.drop n) (vs.drop n)
  | _, _, 0, r => r
  | [], _, n + 1, r => by unfold Reps at r; subst r; exact .nil
  | x :: ds, _, n + 1, r => by
    unfold Reps at r
    obtain ⟨u, w, rfl, r1, r2⟩ := r
    exact Reps.drop n r2
theorem Reps.reverse : ∀ {ds : List D} {vs : List V}, Reps K H β N ds vs → Reps K H β N ds.reverse vs.reverse
  | [], _, r => by unfold Reps at r; subst r; exact .nil
  | x :: ds, _, r => by
    unfold Reps at r
    obtain ⟨u, w, rfl, r1, r2⟩ := r
    rw [List.reverse_cons, List.reverse_cons]
    exact (Reps.reverse r2).append (.one r1)
theorem Reps.dropLast {ds : List D} {vs : List V} (r : Reps K H β N ds vs) : Reps K H β N ds.dropLast vs.dropLast := by
  rw [List.dropLast_eq_take, List.dropLast_eq_take, r.length]
  exact r.take _
theorem Reps.eraseIdx : ∀ {ds : List D} {vs : List V} (i : Nat), Reps K H β N ds vs → Reps K H β N (ds.eraseIdx i) (vs.eraseIdx i)
  | [], _, _, r => by unfold Reps at r; subst r; exact .nil
  | x :: ds, _, 0, r => by
    unfold Reps at r
    obtain ⟨u, w, rfl, r1, r2⟩ := r
    exact r2
  | x :: ds, _, i + 1, r => by
    unfold Reps at r
    obtain ⟨u, w, rfl, r1, r2⟩ := r
    exact .cons r1 (Reps.eraseIdx i r2)
theorem Reps.rep {ds : List D} {vs : List V} (r : Reps K H β N ds vs) : ∀ k : Nat, Reps K H β N (List.replicate k ds).flatten (List.replicate k vs).flatten
  | 0 => .nil
  | k + 1 => by
    rw [List.replicate_succ, List.replicate_succ, List.flatten_cons, List.flatten_cons]
    exact r.append (Reps.rep r k)
/-- the next place of β -/
def ext1 (β : Bt) (N : Nat) (p : Addr) : Bt := ⟨fun n => if n = N then p else β n, β.p⟩
theorem ext1_at (β : Bt) (N : Nat) (p : Addr) : ext1 β N p N = p := if_pos rfl
theorem ext1_lt {n : Nat} (p : Addr) (h : n < N) : ext1 β N p n = β n := if_neg (Nat.ne_of_lt h)
/-- a new object that is not followed as a list to be written -/
theorem Ext.fresh {p : Addr} {o : HO} (hp : H p = none) : Ext β N H β N (upd H p o) :=
  ⟨Nat.le_refl _, fun _ _ => rfl, fun a u h _ => by rw [upd_ne (ne_of_none h hp)]; exact h, fun n h1 h2 => absurd h2 (Nat.not_lt.mpr h1), fun a h => by
    by_cases z : a = p
    · rw [z]; exact hp
    · rw [upd_ne z] at h; exact h, rfl⟩
/-- a new list to be written to -/
theorem Ext.cell {p : Addr} {o : HO} (hp : H p = none) : Ext β N H (ext1 β N p) (N + 1) (upd H p o) :=
  ⟨Nat.le_succ _, fun n h => ext1_lt p h, fun a u h _ => by rw [upd_ne (ne_of_none h hp)]; exact h, fun n h1 h2 => by
    have : n = N := by omega
    subst this
    rw [ext1_at]; exact hp, fun a h => by
    by_cases z : a = p
    · rw [z]; exact hp
    · rw [upd_ne z] at h; exact h, rfl⟩
theorem upd_some {H : Hp} {p a : Addr} {o : HO} (h : H a ≠ none) : upd H p o a ≠ none := by
  by_cases z : a = p
  · rw [z, upd_same]; simp
  · rw [upd_ne z]; exact h
theorem HeapR.lt_of (h : HeapR K H β M) {n : Nat} (hn : n < M.length) : ∃ vs, H (β n) = some (.lst vs) := by
  have q := h.cell n _ (List.getElem?_eq_getElem hn)
  cases e : M[n] with
  | lst xs =>
    rw [e] at q
    obtain ⟨vs, q, _⟩ := q
    exact ⟨vs, q⟩
theorem HeapR.fresh {p : Addr} {o : HO} (h : HeapR K H β M) (hp : H p = none) : HeapR K (upd H p o) β M where
  cell := fun n m e => by
    have q := h.cell n m e
    cases m with
    | lst xs =>
      obtain ⟨vs, q, r⟩ := q
      exact ⟨vs, by rw [upd_ne (ne_of_none q hp)]; exact q, Reps.mono h (Ext.fresh hp) r⟩
  inj := h.inj
  prot := fun a ha => upd_some (h.prot a ha)
theorem HeapR.cell1 {p : Addr} {xs : List D} {vs : List V} (h : HeapR K H β M) (hp : H p = none) (r : Reps K H β M.length xs vs) : HeapR K (upd H p (.lst vs)) (ext1 β M.length p) (M ++ [.lst xs]) where
  prot := fun a ha => upd_some (h.prot a ha)
  cell := fun n m e => by
    have hl : (M ++ [MO.lst xs]).length = M.length + 1 := by simp
    rw [hl]
    by_cases hn : n < M.length
    · rw [List.getElem?_append_left hn] at e
      have q := h.cell n m e
      cases m with
      | lst ys =>
        obtain ⟨ws, q, r'⟩ := q
        rw [ext1_lt p hn]
        exact ⟨ws, by rw [upd_ne (ne_of_none q hp)]; exact q, Reps.mono h (Ext.cell hp) r'⟩
    · have hz : n < (M ++ [MO.lst xs]).length := (List.getElem?_eq_some_iff.mp e).1
      have en : n = M.length := by omega
      subst en
      rw [List.getElem?_append_right (Nat.le_refl _), Nat.sub_self] at e
      have em : MO.lst xs = m := by simpa using e
      subst em
      rw [ext1_at]
      exact ⟨vs, upd_same, Reps.mono h (Ext.cell hp) r⟩
  inj := fun m n hm hn e => by
    have hl : (M ++ [MO.lst xs]).length = M.length + 1 := by simp
    rw [hl] at hm hn
    have no : ∀ k, k < M.length → β k ≠ p := fun k hk z => by
      obtain ⟨ws, q⟩ := h.lt_of hk
      rw [z, hp] at q
      cases q
    by_cases h1 : m < M.length
    · by_cases h2 : n < M.length
      · rw [ext1_lt p h1, ext1_lt p h2] at e
        exact h.inj m n h1 h2 e
      · have en : n = M.length := by omega
        subst en
        rw [ext1_lt p h1, ext1_at] at e
        exact absurd e (no m h1)
    · have em : m = M.length := by omega
      subst em
      by_cases h2 : n < M.length
      · rw [ext1_lt p h2, ext1_at] at e
        exact absurd e.symm (no n h2)
      · omega
/-- a list is written to -/
theorem Ext.write {n : Nat} {o : HO} (hn : n < N) (ht : H (β n) ≠ none) : Ext β N H β N (upd H (β n) o) :=
  ⟨Nat.le_refl _, fun _ _ => rfl, fun a u h hno => by rw [upd_ne (Ne.symm (hno n hn))]; exact h, fun n h1 h2 => absurd h2 (Nat.not_lt.mpr h1), fun a h => by
    by_cases z : a = β n
    · rw [z, upd_same] at h; cases h
    · rw [upd_ne z] at h; exact h, rfl⟩
theorem HeapR.write {n : Nat} {xs : List D} {vs : List V} (h : HeapR K H β M) (hn : n < M.length) (r : Reps K H β M.length xs vs) : HeapR K (upd H (β n) (.lst vs)) β (M.set n (.lst xs)) where
  prot := fun a ha => upd_some (h.prot a ha)
  cell := fun m o e => by
    have ht : H (β n) ≠ none := by obtain ⟨ws, q⟩ := h.lt_of hn; rw [q]; simp
    rw [List.length_set]
    by_cases hm : n = m
    · subst hm
      rw [List.getElem?_set_self hn] at e
      have eo : MO.lst xs = o := Option.some.inj e
      subst eo
      exact ⟨vs, upd_same, Reps.mono h (Ext.write hn ht) r⟩
    · rw [List.getElem?_set_ne hm] at e
      have q := h.cell m o e
      have hm' : m < M.length := (List.getElem?_eq_some_iff.mp e).1
      cases o with
      | lst ys =>
        obtain ⟨ws, q, r'⟩ := q
        exact ⟨ws, by rw [upd_ne (fun z => hm (h.inj m n hm' hn z).symm)]; exact q, Reps.mono h (Ext.write hn ht) r'⟩
  inj := fun m k hm hk e => by
    rw [List.length_set] at hm hk
    exact h.inj m k hm hk e
theorem lstAt_get {n : Nat} {xs : List D} (e : lstAt M n = some xs) : M[n]? = some (.lst xs) := by
  unfold lstAt at e
  cases q : M[n]? with
  | none => rw [q] at e; cases e
  | some o =>
    cases o with
    | lst ys =>
      rw [q] at e
      have : ys = xs := Option.some.inj e
      rw [this]
theorem HeapR.lst (h : HeapR K H β M) {n : Nat} {xs : List D} (e : lstAt M n = some xs) : n < M.length ∧ ∃ vs, H (β n) = some (.lst vs) ∧ Reps K H β M.length xs vs := by
  have q := lstAt_get e
  exact ⟨(List.getElem?_eq_some_iff.mp q).1, h.cell n _ q⟩
end
end LX

set_option Elab.async false
set_option linter.all false
set_option maxRecDepth 100000
set_option maxHeartbeats 2000000
/-! LxPrim: the operations by value. -/
namespace LX
open PySem L2 PyProof.Rows

/-- an outcome and what is wanted of it -/
def Post {α A : Type} (K : PySem.W.Frag) (W : WX) (xa : Nat → Addr) (R : Hp → Bt → Nat → α → A → Prop) (σ : L2.St) (H : Hp) (β : Bt) (N : Nat) (r : Res α) (Q : A → Hp → Prop) : Prop :=
  match r with
  | .ok d M' => ∀ β' H' v, Ext β N H β' M'.length H' → HeapR K H' β' M' → R H' β' M'.length d v → Q v H'
  | .exn c fs M' => ∀ β' H' dx fvs, Ext β N H β' M'.length H' → HeapR K H' β' M' → H' dx = some (.xd fvs) → (∀ f d, fs.lookup f = some d → ∃ v, fvs.lookup f = some v ∧ Rep K H' β' M'.length d v) → W (.ref (xa c)) (some dx) σ H'
  | .stuck => False
/-- values, lists of values, plain things -/
abbrev RD (K : PySem.W.Frag) : Hp → Bt → Nat → D → V → Prop := fun H β N d v => Rep K H β N d v
abbrev RDs (K : PySem.W.Frag) : Hp → Bt → Nat → List D → List V → Prop := fun H β N d v => Reps K H β N d v
abbrev RP {α : Type} : Hp → Bt → Nat → α → α → Prop := fun _ _ _ d v => d = v
section
variable {K : PySem.W.Frag} {W : WX} {xa : Nat → Addr} {σ : L2.St} {H : Hp} {β : Bt} {N : Nat} {M : MH}
theorem Post.bind {α γ A C : Type} {R : Hp → Bt → Nat → α → A → Prop} {R' : Hp → Bt → Nat → γ → C → Prop} {r : Res α} {k : α → MH → Res γ} {Q : C → Hp → Prop}
    (h : Post K W xa R' σ H β N (r.bind k) Q) : Post K W xa R σ H β N r fun a H1 => ∃ β1 M1 x, Ext β N H β1 M1.length H1 ∧ HeapR K H1 β1 M1 ∧ R H1 β1 M1.length x a ∧ Post K W xa R' σ H1 β1 M1.length (k x M1) Q := by
  cases r with
  | ok x M1 =>
    intro β1 H1 v e hp rv
    refine ⟨β1, M1, x, e, hp, rv, ?_⟩
    have h' : Post K W xa R' σ H β N (k x M1) Q := h
    cases q : k x M1 with
    | ok y M2 =>
      rw [q] at h'
      exact fun β2 H2 w e2 hp2 r2 => h' β2 H2 w (e.trans e2) hp2 r2
    | exn c fs M2 =>
      rw [q] at h'
      exact fun β2 H2 dx fvs e2 hp2 a b => h' β2 H2 dx fvs (e.trans e2) hp2 a b
    | stuck =>
      rw [q] at h'
      exact h'
  | exn c fs M1 => exact h
  | stuck => exact h
theorem Post.ofO {α γ C : Type} {R' : Hp → Bt → Nat → γ → C → Prop} {o : Option α} {M : MH} {k : α → MH → Res γ} {Q : C → Hp → Prop} (h : Post K W xa R' σ H β N ((ofO o M).bind k) Q) :
    ∃ a, o = some a ∧ Post K W xa R' σ H β N (k a M) Q := by
  cases o with
  | none => exact h.elim
  | some a => exact ⟨a, rfl, h⟩
theorem Post.ite {γ C : Type} {R' : Hp → Bt → Nat → γ → C → Prop} {b : Prop} [Decidable b] {r : Res γ} {Q : C → Hp → Prop} (h : Post K W xa R' σ H β N (if b then r else .stuck) Q) : b ∧ Post K W xa R' σ H β N r Q := by
  by_cases hb : b
  · rw [if_pos hb] at h
    exact ⟨hb, h⟩
  · rw [if_neg hb] at h
    exact h.elim
theorem Post.okv {d : D} {v : V} {Q : VK} (hp : HeapR K H β M) (h : Post K W xa (RD K) σ H β M.length (.ok d M) Q) (r : Rep K H β M.length d v) : Q v H :=
  h β H v (Ext.refl ..) hp r
theorem Post.newL {m : Bool} {xs : List D} {vs : List V} {Q : VK} (hp : HeapR K H β M) (h : Post K W xa (RD K) σ H β M.length (newL m xs M) Q) (r : Reps K H β M.length xs vs) :
    ∀ p, H p = none → Q (.ref p) (upd H p (.lst vs)) := by
  intro p hn
  have no : ∀ n, n < M.length → β n ≠ p := fun n hl z => by
    obtain ⟨ws, q⟩ := hp.lt_of hl
    rw [z, hn] at q
    cases q
  cases m with
  | true =>
    have h' : Post K W xa (RD K) σ H β M.length (.ok (.ref M.length) (M ++ [.lst xs])) Q := h
    have hl : (M ++ [MO.lst xs]).length = M.length + 1 := by simp
    refine h' (ext1 β M.length p) _ _ ?_ (hp.cell1 hn r) ?_
    · rw [hl]; exact Ext.cell hn
    · show Rep K _ _ _ (D.ref M.length) _
      unfold Rep
      exact ⟨by rw [hl]; exact Nat.lt_succ_self _, by rw [ext1_at]⟩
  | false =>
    have h' : Post K W xa (RD K) σ H β M.length (.ok (.tl xs) M) Q := h
    refine h' β _ _ (Ext.fresh hn) (hp.fresh hn) ?_
    show Rep K _ _ _ (D.tl xs) _
    unfold Rep
    exact ⟨p, vs, rfl, upd_same, ⟨no, fun z => hp.prot p z hn⟩, Reps.mono hp (Ext.fresh hn) r⟩
theorem Post.edic {kvs : List (List Nat × Int)} {Q : VK} (hp : HeapR K H β M) (h : Post K W xa (RD K) σ H β M.length (.ok (.edic kvs) M) Q) : ∀ p, H p = none → Q (.ref p) (upd H p (.dK (kvI kvs))) := by
  intro p hn
  have no : ∀ n, n < M.length → β n ≠ p := fun n hl z => by
    obtain ⟨ws, q⟩ := hp.lt_of hl
    rw [z, hn] at q
    cases q
  refine h β _ _ (Ext.fresh hn) (hp.fresh hn) ?_
  show Rep K _ _ _ (D.edic kvs) _
  unfold Rep
  exact ⟨p, rfl, upd_same, ⟨no, fun z => hp.prot p z hn⟩⟩
theorem Post.tup {xs : List D} {vs : List V} {Q : VK} (hp : HeapR K H β M) (h : Post K W xa (RD K) σ H β M.length (.ok (.tup xs) M) Q) (r : Reps K H β M.length xs vs) :
    ∀ p, H p = none → Q (.ref p) (upd H p (.tup vs)) := by
  intro p hn
  refine h β _ _ (Ext.fresh hn) (hp.fresh hn) ?_
  show Rep K _ _ _ (D.tup xs) _
  unfold Rep
  exact ⟨p, vs, rfl, .inl (.inl upd_same), Reps.mono hp (Ext.fresh hn) r⟩
theorem Post.wr {n : Nat} {d : D} {v : V} {xs : List D} {vs : List V} {Q : VK} (hp : HeapR K H β M) (hn : n < M.length) (h : Post K W xa (RD K) σ H β M.length (.ok d (M.set n (.lst xs))) Q) (r : Reps K H β M.length xs vs) (rd : Rep K H β M.length d v) :
    Q v (upd H (β n) (.lst vs)) := by
  have ht : H (β n) ≠ none := by obtain ⟨ws, q⟩ := hp.lt_of hn; rw [q]; simp
  refine h β _ v ?_ (hp.write hn r) ?_
  · rw [List.length_set]; exact Ext.write hn ht
  · rw [List.length_set]; exact Rep.mono hp (Ext.write hn ht) rd
/-! ### what the values are -/
theorem Rep.intI {i : Int} {v : V} (r : Rep K H β N (.int i) v) : v = .int i := r
theorem Rep.tupI {xs : List D} {v : V} (r : Rep K H β N (.tup xs) v) : ∃ a vs, v = .ref a ∧ SqT K H a vs ∧ Reps K H β N xs vs := by unfold Rep at r; exact r
theorem Rep.strI {s : List Nat} {v : V} (r : Rep K H β N (.str s) v) : s.length ≤ lim ∧ v = .str ⟨s.toArray⟩ := by unfold Rep at r; exact r
theorem Rep.mkStr {s : List Nat} (h : s.length ≤ lim) : Rep K H β N (.str s) (.str ⟨s.toArray⟩) := by unfold Rep; exact ⟨h, rfl⟩
theorem Rep.tlO {d : D} {v : V} {xs : List D} (hp : HeapR K H β M) (r : Rep K H β M.length d v) (e : tlOf M d = some xs) : ∃ a vs, v = .ref a ∧ H a = some (.lst vs) ∧ Reps K H β M.length xs vs := by
  cases d with
  | tl ys =>
    have e' : ys = xs := Option.some.inj e
    subst e'
    unfold Rep at r
    obtain ⟨a, vs, h1, h2, _, h3⟩ := r
    exact ⟨a, vs, h1, h2, h3⟩
  | ref n =>
    obtain ⟨_, vs, h1, h2⟩ := hp.lst (show lstAt M n = some xs from e)
    unfold Rep at r
    exact ⟨β n, vs, r.2, h1, h2⟩
  | _ => cases e
theorem Rep.seqO {d : D} {v : V} {xs : List D} (hp : HeapR K H β M) (r : Rep K H β M.length d v) (e : seqOf M d = some xs) : ∃ a vs, v = .ref a ∧ (SqL K H a vs ∨ SqT K H a vs) ∧ Reps K H β M.length xs vs := by
  cases d with
  | tup ys =>
    have e' : ys = xs := Option.some.inj e
    subst e'
    obtain ⟨a, vs, h1, h2, h3⟩ := r.tupI
    exact ⟨a, vs, h1, .inr h2, h3⟩
  | tl ys =>
    obtain ⟨a, vs, h1, h2, h3⟩ := Rep.tlO hp r (show tlOf M (.tl ys) = some xs from e)
    exact ⟨a, vs, h1, .inl (SqL.of h2), h3⟩
  | fl ys =>
    have e' : ys = xs := Option.some.inj e
    subst e'
    unfold Rep at r
    obtain ⟨a, vs, h1, h2, h3⟩ := r
    exact ⟨a, vs, h1, .inl h2.sq, h3⟩
  | ref n =>
    obtain ⟨a, vs, h1, h2, h3⟩ := Rep.tlO hp r (show tlOf M (.ref n) = some xs from e)
    exact ⟨a, vs, h1, .inl (SqL.of h2), h3⟩
  | _ => cases e
end
/-- a two-place reading by values -/
def r2 (K : PySem.W.Frag) (W : WX) (xa : Nat → Addr) (σ : L2.St) (f : MH → D → D → Res D) : R2 := fun x y H Q => ∃ β M a b, HeapR K H β M ∧ Rep K H β M.length a x ∧ Rep K H β M.length b y ∧ Post K W xa (RD K) σ H β M.length (f M a b) Q
section
variable {X : Cx} {W : WX} {xa : Nat → Addr} {σ0 : L2.St}
theorem len_str_arr (s : List Nat) : (⟨s.toArray⟩ : Str).length = s.length := by simp [Str.length]
theorem app_str_arr (x y : List Nat) : (⟨x.toArray⟩ : Str) ++ ⟨y.toArray⟩ = ⟨(x ++ y).toArray⟩ := by
  show Str.append _ _ = _
  unfold Str.append
  simp
theorem foldl_app (x : List Nat) : ∀ (k : Nat) (acc : List Nat), (List.replicate k x.toArray).foldl (· ++ ·) acc.toArray = (acc ++ (List.replicate k x).flatten).toArray
  | 0, acc => by simp
  | k + 1, acc => by
    rw [List.replicate_succ, List.foldl_cons, List.replicate_succ, List.flatten_cons, ← List.append_assoc]
    rw [show acc.toArray ++ x.toArray = (acc ++ x).toArray by simp]
    exact foldl_app x k (acc ++ x)
theorem bin_add (m : Bool) : OpR X (binaryOp .Add) (r2 X.K W xa σ0 fun M a b => binD m M .Add a b) := by
  intro pins s σ H x y v u Q I rx ry h
  obtain ⟨β, M, a, b, hp, ra, rb, h⟩ := h
  have lists : ∀ {xs ys : List D}, tlOf M a = some xs → tlOf M b = some ys → Post X.K W xa (RD X.K) σ0 H β M.length (if xs.length + ys.length ≤ lim then newL m (xs ++ ys) M else .stuck) Q →
      wpAny (model X.prog X.w) X.A (binaryOp .Add v u) (EP X pins σ Q) X.xe s := fun {xs ys} e1 e2 h => by
    obtain ⟨hz, h⟩ := h.ite
    obtain ⟨p, vs, rfl, h1, r1⟩ := ra.tlO hp e1
    obtain ⟨q, ws, rfl, h2, r2⟩ := rb.tlO hp e2
    exact op_cat pins s σ H _ _ v u Q I rx ry ⟨p, q, vs, ws, rfl, rfl, h1, h2, by rw [r1.length, r2.length, lim_eq]; exact hz, h.newL hp (r1.append r2)⟩
  cases a with
  | int i =>
    cases b with
    | int j => exact op_add pins s σ H x y v u Q I rx ry ⟨i, j, ra, rb, h.okv hp rfl⟩
    | _ => exact h.elim
  | str z =>
    cases b with
    | str z' =>
      obtain ⟨hz, h⟩ := Post.ite (r := Res.ok (D.str (z ++ z')) M) h
      obtain ⟨_, rfl⟩ := ra.strI
      obtain ⟨_, rfl⟩ := rb.strI
      refine op_add_str pins s σ H _ _ v u Q I rx ry ⟨_, _, rfl, rfl, by rw [len_str_arr, len_str_arr, lim_eq]; exact hz, ?_⟩
      rw [app_str_arr]
      exact h.okv hp (.mkStr (by rw [List.length_append]; exact hz))
    | _ => exact h.elim
  | tup xs =>
    cases b with
    | tup ys =>
      obtain ⟨hz, h⟩ := Post.ite (r := Res.ok (D.tup (xs ++ ys)) M) h
      obtain ⟨p, vs, rfl, h1, r1⟩ := ra.tupI
      obtain ⟨q, ws, rfl, h2, r2⟩ := rb.tupI
      refine op_catA pins s σ H _ _ v u Q I rx ry ⟨p, q, vs, ws, rfl, rfl, h1, h2, by rw [r1.length, r2.length, lim_eq]; exact hz, fun e => ?_, fun _ e => ?_, fun _ _ => h.tup hp (r1.append r2)⟩
      · have e' : xs = [] := List.eq_nil_of_length_eq_zero (by rw [← r1.length, e]; rfl)
        subst e'
        exact h.okv hp rb
      · have e' : ys = [] := List.eq_nil_of_length_eq_zero (by rw [← r2.length, e]; rfl)
        subst e'
        rw [List.append_nil] at h
        exact h.okv hp ra
    | _ => exact h.elim
  | tl xs =>
    have h' : Post X.K W xa (RD X.K) σ0 H β M.length ((ofO (tlOf M b) M).bind fun y M => if xs.length + y.length ≤ lim then newL m (xs ++ y) M else .stuck) Q := by
      cases b <;> exact h
    obtain ⟨ys, e2, h2⟩ := h'.ofO
    exact lists rfl e2 h2
  | ref n =>
    have h' : Post X.K W xa (RD X.K) σ0 H β M.length ((ofO (lstAt M n) M).bind fun x M => (ofO (tlOf M b) M).bind fun y M => if x.length + y.length ≤ lim then newL m (x ++ y) M else .stuck) Q := by
      cases b <;> exact h
    obtain ⟨xs, e1, h1⟩ := h'.ofO
    obtain ⟨ys, e2, h2⟩ := h1.ofO
    exact lists e1 e2 h2
  | _ => cases b <;> exact h.elim
theorem smallI_ok {i j : Int} (h : (smallI i || smallI j) = true) : CMul i j := by
  unfold smallI at h
  simp only [Bool.or_eq_true, Bool.and_eq_true, decide_eq_true_eq] at h
  exact h
theorem log2_lt' {n k : Nat} (h : n.log2 < k) : n < 2 ^ k := by
  by_cases h0 : n = 0
  · subst h0
    exact Nat.two_pow_pos k
  · exact (Nat.log2_lt h0).mp h
theorem bigI_ok {i j : Int} (h : bigI i j = true) : CMulX i j := by
  unfold bigI at h
  rw [Bool.and_eq_true, decide_eq_true_eq, decide_eq_true_eq] at h
  exact mulx_ok (log2_lt' h.1) (log2_lt' h.2) (by decide)
/-- a tuple, many times: so long as no million is passed -/
theorem op_repT2 : OpR X (binaryOp .Mult) (fun x y H Q => ∃ l k xs, x = V.ref l ∧ y = V.int k ∧ SqT X.K H l xs ∧ xs ≠ [] ∧ 2 ≤ k ∧ xs.length * k.toNat ≤ 1000000 ∧ ∀ p, H p = none → Q (.ref p) (upd H p (.tup (List.replicate k.toNat xs).flatten))) := by
  intro pins s σ H x y v u Q I rx ry h
  obtain ⟨l, k, xs, rfl, rfl, hT, hne, h1, hz, q⟩ := h
  cases rx
  obtain ⟨t, rfl⟩ := ry
  obtain ⟨its, r, ⟨⟨cls, dd, data, sl⟩, ho, hc, n, hd⟩, hs⟩ := I.tuple hT
  simp only at hc hd
  subst hc hd
  have hle : its.length = xs.length := r.length.symm
  have hpos : 0 < xs.length := by
    cases xs with
    | nil => exact absurd rfl hne
    | cons _ _ => exact Nat.succ_pos _
  have hi : its.toArray.isEmpty = false := by
    cases its with
    | nil => rw [List.length_nil] at hle; omega
    | cons a b => rfl
  have hsz0 : its.toArray.size = xs.length := by rw [List.size_toArray, hle]
  have hk1 : k.toNat ≤ 1000000 := Nat.le_trans (Nat.le_mul_of_pos_left _ hpos) hz
  have hki : ((k.toNat : Nat) : Int) = k := by omega
  have hm : ((its.toArray.size : Nat) : Int) * k ≤ 1000000 := by
    rw [hsz0]
    have a1 : ((xs.length * k.toNat : Nat) : Int) = ((xs.length : Nat) : Int) * k := by rw [Int.natCast_mul, hki]
    omega
  have flen : (List.replicate k.toNat its).flatten.length ≤ sizeLine := by
    rw [PyProof.Rows.lm_len_rep_flat, hle, sizeLine_eq, Nat.mul_comm]
    omega
  have c0 : (decide (k < -(2 ^ 63)) || decide (k ≥ 2 ^ 63)) = false := by
    rw [decide_eq_false (by omega), decide_eq_false (by omega)] <;> rfl
  have c1 : (its.toArray.isEmpty || k == 1) = false := by
    rw [hi, Bool.false_or]
    exact beq_eq_false_iff_ne.mpr (by omega)
  have c2 : (decide (k ≤ 0) || its.toArray.isEmpty) = false := by
    rw [hi, Bool.or_false]
    exact decide_eq_false (by omega)
  have c4 : Builtin.Tuple.tupleTooMany (((its.toArray.size : Nat) : Int) * k) = false := by
    unfold Builtin.Tuple.tupleTooMany
    rw [sizeLine_eq]
    exact decide_eq_false (by omega)
  refine wpAny_binaryOp_repeat_ref (T := "tuple") (U := "int") (by decide) ⟨_, ho, rfl⟩ (fun s' => typeIs_int s' k t) noFill_tuple_mul F.fills_int_mul F.slot_int_rmul repeat_tuple F.slot_int_index.lookup
    (call_meets F.slot_int_rmul (typeIs_int s k t) F.entry_int_rmul (F.args_int_rmul_2 _ _) (int_rmul_tuple k t l its.toArray n dd sl)
      ⟨ho, rfl, ⟨_, ho, rfl⟩, call_meets F.slot_tuple_mul ⟨_, ho, rfl⟩ F.entry_tuple_mul (F.args_tuple_mul_2 _ _) (tuple_mulW l its.toArray n dd sl k t c0 c1 c2 (by omega) c4 (by rw [size_rep, List.size_toArray]; exact flen)) ⟨ho, ?_⟩⟩)
  rw [size_rep]
  refine ⟨.ref s.heap.objs.size, _, I.laid (t' := s.toks) (o := .tup (List.replicate k.toNat xs).flatten) (fun b ob q => Heap.get?_push_of_some _ q) (Nat.le_refl _) ?_, rfl, q _ (I.hok.fresh (Nat.le_refl _))⟩
  exact ⟨by rw [PyProof.Rows.lm_len_rep_flat, sizeLine_eq, Nat.mul_comm]; omega, _, r.rep k.toNat, IsTup.new _ _⟩
theorem bin_mul (m : Bool) : OpR X (binaryOp .Mult) (r2 X.K W xa σ0 fun M a b => binD m M .Mult a b) := by
  intro pins s σ H x y v u Q I rx ry h
  obtain ⟨β, M, a, b, hp, ra, rb, h⟩ := h
  cases a with
  | int i =>
    cases b with
    | int j =>
      by_cases hz : (smallI i || smallI j) = true
      · have h' : Post X.K W xa (RD X.K) σ0 H β M.length (if (smallI i || smallI j) = true then Res.ok (D.int (i * j)) M else if bigI i j = true then Res.ok (D.int (i * j)) M else .stuck) Q := h
        rw [if_pos hz] at h'
        exact op_mul pins s σ H x y v u Q I rx ry ⟨i, j, ra, rb, smallI_ok hz, h'.okv hp rfl⟩
      · have h' : Post X.K W xa (RD X.K) σ0 H β M.length (if (smallI i || smallI j) = true then Res.ok (D.int (i * j)) M else if bigI i j = true then Res.ok (D.int (i * j)) M else .stuck) Q := h
        rw [if_neg hz] at h'
        obtain ⟨hb, h'⟩ := Post.ite h'
        exact op_mulX pins s σ H x y v u Q I rx ry ⟨i, j, ra, rb, bigI_ok hb, h'.okv hp rfl⟩
    | _ => exact h.elim
  | str z =>
    cases b with
    | int k =>
      obtain ⟨hz, h⟩ := Post.ite (r := Res.ok (D.str (List.replicate k.toNat z).flatten) M) h
      rw [Bool.and_eq_true, Bool.and_eq_true] at hz
      have h0 : 0 ≤ k := of_decide_eq_true hz.1.1
      have h1 : k ≤ 1000000 := of_decide_eq_true hz.1.2
      have h2 : z.length * k.toNat ≤ lim := of_decide_eq_true hz.2
      obtain ⟨hl, rfl⟩ := ra.strI
      obtain rfl := rb.intI
      obtain ⟨t, rfl⟩ := rx
      obtain ⟨t', rfl⟩ := ry
      have hlen : (List.replicate k.toNat z).flatten.length = z.length * k.toNat := by
        rw [List.length_flatten, List.map_replicate, List.sum_replicate_nat, Nat.mul_comm]
      have q := h.okv hp (.mkStr (by rw [hlen]; exact h2))
      have hz : (⟨z.toArray⟩ : Str).length = z.length := len_str_arr z
      have hbig : (z.length : Int) * k ≤ 16777216 := by
        have : ((z.length * k.toNat : Nat) : Int) ≤ 16777216 := Int.ofNat_le.mpr h2
        rw [Int.natCast_mul, Int.toNat_of_nonneg h0] at this
        exact this
      have hk : ∀ {n : Int}, ¬ n < 1 → (0 : Int) < n := fun {n} z => by omega
      refine P.mul_str (by rw [decide_eq_false (by omega), decide_eq_false (by omega)]; rfl) (fun h3 h4 h5 => ?_) (fun h3 h4 => ?_) ?_
      · rw [hz] at h5
        have h6 := Int.lt_ediv_add_one_mul_self (2 ^ 63 - 1) (hk h3)
        have h7 : ((2 ^ 63 - 1) / k + 1) * k ≤ (z.length : Int) * k := Int.mul_le_mul_of_nonneg_right (by omega) h0
        omega
      · rw [hz]
        exact decide_eq_false (by rw [lim_eq]; exact Nat.not_lt.mpr h2)
      · by_cases h3 : k < 1
        · rw [if_pos h3]
          have e0 : k.toNat = 0 := by omega
          rw [e0] at q
          exact ⟨by decide, ⟨.str ⟨#[]⟩, H, I.tok _, ⟨_, rfl⟩, q⟩⟩
        · rw [if_neg h3]
          by_cases h4 : (k == 1 || (⟨z.toArray⟩ : Str).length == 0) = true
          · rw [if_pos h4]
            have e : (List.replicate k.toNat z).flatten = z := by
              rw [Bool.or_eq_true, beq_iff_eq, beq_iff_eq, hz] at h4
              rcases h4 with h4 | h4
              · rw [h4]; simp
              · have : z = [] := List.eq_nil_of_length_eq_zero h4
                subst this
                simp
            rw [e] at q
            exact ⟨.str ⟨z.toArray⟩, H, I, ⟨t, rfl⟩, q⟩
          · rw [if_neg h4]
            have e : (List.replicate k.toNat (⟨z.toArray⟩ : Str).cps).foldl (· ++ ·) #[] = (List.replicate k.toNat z).flatten.toArray := by
              have e := foldl_app z k.toNat []
              rw [List.nil_append] at e
              exact e
            rw [e]
            refine ⟨?_, .str ⟨(List.replicate k.toNat z).flatten.toArray⟩, H, I.tok _, ⟨_, rfl⟩, q⟩
            rw [len_str_arr, hlen, lim_eq]
            exact h2
    | _ => exact h.elim
  | tup xs =>
    cases b with
    | int k =>
      obtain ⟨hz, h⟩ := Post.ite (r := Res.ok (D.tup (List.replicate k.toNat xs).flatten) M) h
      rw [Bool.and_eq_true, Bool.or_eq_true] at hz
      obtain ⟨hf, hk⟩ := hz
      unfold fits at hf
      rw [Bool.and_eq_true, decide_eq_true_eq, decide_eq_true_eq] at hf
      obtain ⟨p, vs, rfl, h4, r1⟩ := ra.tupI
      obtain rfl := rb.intI
      by_cases he : xs = []
      · subst he
        have e1 : (List.replicate k.toNat ([] : List D)).flatten = [] := by simp
        rw [e1] at h
        have e2 : vs = [] := List.eq_nil_of_length_eq_zero r1.length
        exact op_repS pins s σ H _ _ v u Q I rx ry ⟨p, k, vs, rfl, rfl, h4, hf.1, hf.2, .inl e2, h.okv hp ra⟩
      · have hne : vs ≠ [] := fun e => he (List.eq_nil_of_length_eq_zero (by rw [← r1.length, e]; rfl))
        have hk : xs.length * k.toNat ≤ 1000000 := by
          rcases hk with hk | hk
          · exact absurd (List.isEmpty_iff.mp hk) he
          · exact of_decide_eq_true hk
        by_cases h1 : k = 1
        · subst h1
          have e1 : (List.replicate (1 : Int).toNat xs).flatten = xs := by simp
          rw [e1] at h
          exact op_repS pins s σ H _ _ v u Q I rx ry ⟨p, 1, vs, rfl, rfl, h4, hf.1, hf.2, .inr rfl, h.okv hp ra⟩
        · by_cases h0 : k ≤ 0
          · have e0 : k.toNat = 0 := by omega
            rw [e0] at h
            exact op_repZ pins s σ H _ _ v u Q I rx ry ⟨p, k, vs, rfl, rfl, h4, hne, hf.1, h0, h.tup hp Reps.nil⟩
          · exact op_repT2 pins s σ H _ _ v u Q I rx ry ⟨p, k, vs, rfl, rfl, h4, hne, by omega, by rw [r1.length]; exact hk, h.tup hp (r1.rep _)⟩
    | _ => exact h.elim
  | tl xs =>
    cases b with
    | int k =>
      obtain ⟨hz, h⟩ := Post.ite (r := LX.newL m (List.replicate k.toNat xs).flatten M) h
      rw [Bool.and_eq_true, Bool.and_eq_true] at hz
      have h0 : 0 ≤ k := of_decide_eq_true hz.1.1
      have h1 : k ≤ 1000000 := of_decide_eq_true hz.1.2
      have h2 : xs.length * k.toNat ≤ lim := of_decide_eq_true hz.2
      obtain ⟨p, vs, rfl, h4, r1⟩ := ra.tlO hp rfl
      obtain rfl := rb.intI
      exact op_rep pins s σ H _ _ v u Q I rx ry ⟨p, k, vs, rfl, rfl, h4, by omega, by omega, by rw [r1.length, lim_eq]; exact h2, h.newL hp (r1.rep _)⟩
    | _ => exact h.elim
  | _ => cases b <;> exact h.elim
theorem bin_int {o : Operator} {C : Int → Int → Prop} {g : Int → Int → Int} (rule : OpR X (binaryOp o) (rI C fun i j => .int (g i j))) (m : Bool)
    (hd : ∀ M a b Q σ H β, Post X.K W xa (RD X.K) σ H β M.length (binD m M o a b) Q → ∃ i j, a = .int i ∧ b = .int j ∧ C i j ∧ Post X.K W xa (RD X.K) σ H β M.length (.ok (.int (g i j)) M) Q) :
    OpR X (binaryOp o) (r2 X.K W xa σ0 fun M a b => binD m M o a b) := by
  intro pins s σ H x y v u Q I rx ry h
  obtain ⟨β, M, a, b, hp, ra, rb, h⟩ := h
  obtain ⟨i, j, rfl, rfl, hc, h⟩ := hd M a b Q σ0 H β h
  exact rule pins s σ H x y v u Q I rx ry ⟨i, j, ra, rb, hc, h.okv hp rfl⟩
theorem opI0_I {f : Value → Value → Sem Value} {g : Int → Int → V} (h : OpR X f (rI0 g)) : OpR X f (rI (fun _ _ => True) g) := fun pins s σ H x y v u Q I rx ry ⟨i, j, e1, e2, _, q⟩ => h pins s σ H x y v u Q I rx ry ⟨i, j, e1, e2, q⟩
theorem bin_all (m : Bool) (o : Operator) : OpR X (binaryOp o) (r2 X.K W xa σ0 fun M a b => binD m M o a b) := by
  cases o with
  | Add => exact bin_add m
  | Mult => exact bin_mul m
  | Sub =>
    exact bin_int (opI0_I op_sub) m fun M a b Q σ H β h => by
      cases a <;> cases b <;> first | exact h.elim | exact ⟨_, _, rfl, rfl, trivial, h⟩
  | FloorDiv =>
    exact bin_int op_fdivN m fun M a b Q σ H β h => by
      cases a <;> cases b <;> first
        | exact h.elim
        | (obtain ⟨hz, h⟩ := Post.ite (r := Res.ok (D.int _) M) h
           rw [Bool.and_eq_true] at hz
           exact ⟨_, _, rfl, rfl, ⟨of_decide_eq_true hz.1, of_decide_eq_true hz.2⟩, h⟩)
  | Mod =>
    exact bin_int op_modN m fun M a b Q σ H β h => by
      cases a <;> cases b <;> first
        | exact h.elim
        | (obtain ⟨hz, h⟩ := Post.ite (r := Res.ok (D.int _) M) h
           exact ⟨_, _, rfl, rfl, hz, h⟩)
  | Pow =>
    exact bin_int op_pow m fun M a b Q σ H β h => by
      cases a <;> cases b <;> first
        | exact h.elim
        | (obtain ⟨hz, h⟩ := Post.ite (r := Res.ok (D.int _) M) h
           rw [Bool.and_eq_true, Bool.and_eq_true] at hz
           exact ⟨_, _, rfl, rfl, ⟨of_decide_eq_true hz.1.1, of_decide_eq_true hz.1.2, of_decide_eq_true hz.2⟩, h⟩)
  | LShift =>
    exact bin_int op_shl m fun M a b Q σ H β h => by
      cases a <;> cases b <;> first
        | exact h.elim
        | (obtain ⟨hz, h⟩ := Post.ite (r := Res.ok (D.int _) M) h
           rw [Bool.and_eq_true, Bool.and_eq_true] at hz
           exact ⟨_, _, rfl, rfl, ⟨of_decide_eq_true hz.1.1, of_decide_eq_true hz.1.2, of_decide_eq_true hz.2⟩, h⟩)
  | RShift =>
    exact bin_int op_shr m fun M a b Q σ H β h => by
      cases a <;> cases b <;> first
        | exact h.elim
        | (obtain ⟨hz, h⟩ := Post.ite (r := Res.ok (D.int _) M) h
           exact ⟨_, _, rfl, rfl, hz, h⟩)
  | BitAnd =>
    exact bin_int (opI0_I op_and) m fun M a b Q σ H β h => by
      cases a <;> cases b <;> first | exact h.elim | exact ⟨_, _, rfl, rfl, trivial, h⟩
  | BitOr =>
    exact bin_int (opI0_I op_or) m fun M a b Q σ H β h => by
      cases a <;> cases b <;> first | exact h.elim | exact ⟨_, _, rfl, rfl, trivial, h⟩
  | BitXor =>
    exact bin_int (opI0_I op_xor) m fun M a b Q σ H β h => by
      cases a <;> cases b <;> first | exact h.elim | exact ⟨_, _, rfl, rfl, trivial, h⟩
  | _ =>
    intro pins s σ H x y v u Q I rx ry h
    obtain ⟨β, M, a, b, hp, ra, rb, h⟩ := h
    cases a <;> cases b <;> exact h.elim
end
end LX

set_option Elab.async false
set_option linter.all false
set_option maxRecDepth 100000
set_option maxHeartbeats 2000000
/-! LxPrim2: comparisons, truth. -/
namespace LX
open PySem L2 PyProof.Rows
section
variable {K : PySem.W.Frag} {H : Hp} {β : Bt} {N : Nat} {M : MH}
mutual
theorem Rep.dp : ∀ {d : D} {v : V} {p : PyData}, HeapR K H β M → Rep K H β M.length d v → toPy d = some p → Dp K H v p
  | .non, _, _, _, r, e => by
    cases e
    rw [show _ = V.non from r]
    exact .non
  | .bl b, _, _, _, r, e => by
    cases e
    rw [show _ = V.bl b from r]
    exact .bl b
  | .int i, _, _, _, r, e => by
    cases e
    rw [r.intI]
    exact .int i
  | .str s, _, _, _, r, e => by
    cases e
    rw [r.strI.2]
    exact .str _
  | .tup xs, _, _, hp, r, e => by
    obtain ⟨a, vs, rfl, q, rs⟩ := r.tupI
    have e' : (toPys xs).map PyData.tuple = some _ := e
    cases f : toPys xs with
    | none => rw [f] at e'; cases e'
    | some ds =>
      rw [f] at e'
      cases e'
      exact .tup q (Reps.dp hp rs f)
  | .tl xs, _, _, hp, r, e => by
    obtain ⟨a, vs, rfl, q, rs⟩ := r.tlO hp (show tlOf M (.tl xs) = some xs from rfl)
    have e' : (toPys xs).map PyData.list = some _ := e
    cases f : toPys xs with
    | none => rw [f] at e'; cases e'
    | some ds =>
      rw [f] at e'
      cases e'
      exact .lst (SqL.of q) (Reps.dp hp rs f)
  | .fl xs, _, _, hp, r, e => by
    unfold Rep at r
    obtain ⟨a, vs, rfl, q, rs⟩ := r
    have e' : (toPys xs).map PyData.list = some _ := e
    cases f : toPys xs with
    | none => rw [f] at e'; cases e'
    | some ds =>
      rw [f] at e'
      cases e'
      exact .lst q.sq (Reps.dp hp rs f)
  | .ref _, _, _, _, _, e => by cases e
  | .edic _, _, _, _, _, e => by cases e
theorem Reps.dp : ∀ {ds : List D} {vs : List V} {ps : List PyData}, HeapR K H β M → Reps K H β M.length ds vs → toPys ds = some ps → DpAll K H vs ps
  | [], _, _, _, r, e => by
    unfold Reps at r
    subst r
    cases e
    exact .nil
  | x :: xs, _, _, hp, r, e => by
    unfold Reps at r
    obtain ⟨v, w, rfl, r1, r2⟩ := r
    have e' : ((toPy x).bind fun d => (toPys xs).map fun ds => d :: ds) = some _ := e
    cases f : toPy x with
    | none => rw [f] at e'; cases e'
    | some d =>
      rw [f] at e'
      cases g : toPys xs with
      | none => rw [g] at e'; cases e'
      | some ds =>
        rw [g] at e'
        cases e'
        exact .cons (Rep.dp hp r1 f) (Reps.dp hp r2 g)
end
theorem Rep.dpM {d : D} {v : V} {p : PyData} (hp : HeapR K H β M) (r : Rep K H β M.length d v) (e : toPyM M d = some p) : Dp K H v p := by
  cases d with
  | ref n =>
    have e' : ((lstAt M n).bind fun xs => (toPys xs).map .list) = some p := e
    cases f : lstAt M n with
    | none => rw [f] at e'; cases e'
    | some xs =>
      rw [f] at e'
      have e2 : (toPys xs).map PyData.list = some p := e'
      obtain ⟨_, vs, h1, h2⟩ := hp.lst f
      unfold Rep at r
      obtain ⟨_, rfl⟩ := r
      cases g : toPys xs with
      | none => rw [g] at e2; cases e2
      | some ds =>
        rw [g] at e2
        cases e2
        exact .lst (SqL.of h1) (Reps.dp hp h2 g)
  | _ => exact Rep.dp hp r e
theorem flat_rep {d : D} {v : V} (r : Rep K H β N d v) (f : flat d = true) : flatV v = true := by
  cases d with
  | non => rw [show v = V.non from r]; rfl
  | bl b => rw [show v = V.bl b from r]; rfl
  | int i => rw [r.intI]; rfl
  | str s => rw [r.strI.2]; rfl
  | _ => cases f
theorem eqFlat_rep {d e : D} {v u : V} (r : Rep K H β N d v) (q : Rep K H β N e u) (f : flat d = true) (g : flat e = true) : eqV v u = eqFlat d e := by
  cases d with
  | non => rw [show v = V.non from r]; cases e with
    | non => rw [show u = V.non from q]; rfl
    | bl b => rw [show u = V.bl b from q]; rfl
    | int i => rw [q.intI]; rfl
    | str s => rw [q.strI.2]; rfl
    | _ => cases g
  | bl b => rw [show v = V.bl b from r]; cases e with
    | non => rw [show u = V.non from q]; rfl
    | bl b => rw [show u = V.bl b from q]; rfl
    | int i => rw [q.intI]; rfl
    | str s => rw [q.strI.2]; rfl
    | _ => cases g
  | int i => rw [r.intI]; cases e with
    | non => rw [show u = V.non from q]; rfl
    | bl b => rw [show u = V.bl b from q]; rfl
    | int i => rw [q.intI]; rfl
    | str s => rw [q.strI.2]; rfl
    | _ => cases g
  | str s => rw [r.strI.2]; cases e with
    | non => rw [show u = V.non from q]; rfl
    | bl b => rw [show u = V.bl b from q]; rfl
    | int i => rw [q.intI]; rfl
    | str s' =>
      rw [q.strI.2]
      show ((⟨s.toArray⟩ : Str) == ⟨s'.toArray⟩) = (s == s')
      rw [Bool.eq_iff_iff]
      simp
    | _ => cases g
  | _ => cases f
theorem inV_rep {e : D} {u : V} (q : Rep K H β N e u) (g : flat e = true) : ∀ {ds : List D} {vs : List V}, Reps K H β N ds vs → ds.all flat = true → vs.all flatV = true ∧ inV u vs = ds.any fun y => eqFlat y e
  | [], _, r, _ => by
    unfold Reps at r
    subst r
    exact ⟨rfl, rfl⟩
  | x :: ds, _, r, f => by
    unfold Reps at r
    obtain ⟨v, w, rfl, r1, r2⟩ := r
    rw [List.all_cons, Bool.and_eq_true] at f
    obtain ⟨h1, h2⟩ := inV_rep q g r2 f.2
    refine ⟨?_, ?_⟩
    · rw [List.all_cons, h1, flat_rep r1 f.1]; rfl
    · show (List.any (v :: w) fun y => eqV y u) = _
      rw [List.any_cons, List.any_cons, eqFlat_rep r1 q f.1 g]
      have h3 : (w.any fun y => eqV y u) = ds.any fun y => eqFlat y e := h2
      rw [h3]
theorem isNon_rep {d : D} {v : V} (r : Rep K H β N d v) : isNon d = decide (v = V.non) := by
  cases d with
  | non => rw [show v = V.non from r]; rfl
  | bl b => rw [show v = V.bl b from r]; rfl
  | int i => rw [r.intI]; rfl
  | str s => rw [r.strI.2]; rfl
  | tup xs => obtain ⟨a, vs, rfl, _⟩ := r.tupI; rfl
  | tl xs => unfold Rep at r; obtain ⟨a, vs, rfl, _⟩ := r; rfl
  | fl xs => unfold Rep at r; obtain ⟨a, vs, rfl, _⟩ := r; rfl
  | ref n => unfold Rep at r; obtain ⟨_, rfl⟩ := r; rfl
  | edic kvs => unfold Rep at r; obtain ⟨a, rfl, _⟩ := r; rfl
end
/-- a two-place test by values -/
def rc (K : PySem.W.Frag) (f : MH → D → D → Option Bool) : R2 := fun x y H Q => ∃ β M a b k, HeapR K H β M ∧ Rep K H β M.length a x ∧ Rep K H β M.length b y ∧ f M a b = some k ∧ Q (.bl k) H
section
variable {X : Cx}
theorem bl_eq {Q : VK} {H : Hp} {k k' : Bool} (h : Q (.bl k) H) (e : k = k') : Q (.bl k') H := e ▸ h
theorem str_beq (x y : List Nat) : ((⟨x.toArray⟩ : Str) == ⟨y.toArray⟩) = (x == y) := by
  rw [Bool.eq_iff_iff]
  simp
theorem eq_core (hu : X.A.units + 64 < cLine) (neg : Bool) : OpR X (compareOp (if neg then .NotEq else .Eq)) (rc X.K fun M a b => (eqD M a b).map fun k => xor neg k) := by
  intro pins s σ H x y v u Q I rx ry h
  obtain ⟨β, M, a, b, k0, hp, ra, rb, e, q⟩ := h
  dsimp only at e
  have scalars : ∀ k, scal x y = true → decide (x = y) = k → eqD M a b = some k → wpAny (model X.prog X.w) X.A (compareOp (if neg then .NotEq else .Eq) v u) (EP X pins σ Q) X.xe s := fun k h1 h2 h3 => by
    rw [h3] at e
    have e' : xor neg k = k0 := Option.some.inj e
    cases neg with
    | true => exact op_ne pins s σ H x y v u Q I rx ry ⟨h1, bl_eq q (by rw [h2, ← e']; simp)⟩
    | false => exact op_eq pins s σ H x y v u Q I rx ry ⟨h1, bl_eq q (by rw [h2, ← e']; simp)⟩
  have general : eqD M a b = eqGen M a b → wpAny (model X.prog X.w) X.A (compareOp (if neg then .NotEq else .Eq) v u) (EP X pins σ Q) X.xe s := fun h => by
    rw [h] at e
    have e' : (((toPyM M a).bind fun d => (toPyM M b).bind fun e => if PySem.SeqAt.shaped d && PySem.SeqAt.shaped e then some (PyData.eqv d e) else none).map fun k => xor neg k) = some k0 := e
    cases f : toPyM M a with
    | none => rw [f] at e'; cases e'
    | some d =>
      cases g : toPyM M b with
      | none => rw [f, g] at e'; cases e'
      | some d' =>
        rw [f, g] at e'
        have e2 : ((if PySem.SeqAt.shaped d && PySem.SeqAt.shaped d' then some (PyData.eqv d d') else none).map fun k => xor neg k) = some k0 := e'
        by_cases hs : (PySem.SeqAt.shaped d && PySem.SeqAt.shaped d') = true
        · rw [if_pos hs] at e2
          have e3 : xor neg (PyData.eqv d d') = k0 := Option.some.inj e2
          rw [Bool.and_eq_true] at hs
          cases neg with
          | true => exact op_neD hu pins s σ H x y v u Q I rx ry ⟨d, d', ra.dpM hp f, rb.dpM hp g, hs.1, hs.2, bl_eq q (by rw [← e3]; simp)⟩
          | false => exact op_eqD hu pins s σ H x y v u Q I rx ry ⟨d, d', ra.dpM hp f, rb.dpM hp g, hs.1, hs.2, bl_eq q (by rw [← e3]; simp)⟩
        · rw [if_neg hs] at e2
          cases e2
  cases a with
  | non =>
    have ex : x = V.non := ra
    cases b with
    | non => exact scalars true (by rw [ex, show y = V.non from rb]; rfl) (by rw [ex, show y = V.non from rb]; rfl) rfl
    | int j => exact scalars false (by rw [ex, rb.intI]; rfl) (by rw [ex, rb.intI]; rfl) rfl
    | bl j => exact scalars false (by rw [ex, show y = V.bl j from rb]; rfl) (by rw [ex, show y = V.bl j from rb]; rfl) rfl
    | str j => exact scalars false (by rw [ex, rb.strI.2]; rfl) (by rw [ex, rb.strI.2]; rfl) rfl
    | _ => exact general rfl
  | bl i =>
    have ex : x = V.bl i := ra
    cases b with
    | non => exact scalars false (by rw [ex, show y = V.non from rb]; rfl) (by rw [ex, show y = V.non from rb]; rfl) rfl
    | bl j => exact scalars (i == j) (by rw [ex, show y = V.bl j from rb]; rfl) (by rw [ex, show y = V.bl j from rb]; exact dec_bl) rfl
    | _ => exact general rfl
  | int i =>
    have ex := ra.intI
    cases b with
    | non => exact scalars false (by rw [ex, show y = V.non from rb]; rfl) (by rw [ex, show y = V.non from rb]; rfl) rfl
    | int j => exact scalars (i == j) (by rw [ex, rb.intI]; rfl) (by rw [ex, rb.intI]; exact dec_int) rfl
    | str j => exact scalars false (by rw [ex, rb.strI.2]; rfl) (by rw [ex, rb.strI.2]; rfl) rfl
    | _ => exact general rfl
  | str i =>
    have ex := ra.strI.2
    cases b with
    | non => exact scalars false (by rw [ex, show y = V.non from rb]; rfl) (by rw [ex, show y = V.non from rb]; rfl) rfl
    | int j => exact scalars false (by rw [ex, rb.intI]; rfl) (by rw [ex, rb.intI]; rfl) rfl
    | str j => exact scalars (i == j) (by rw [ex, rb.strI.2]; rfl) (by rw [ex, rb.strI.2, dec_str]; exact str_beq i j) rfl
    | _ => exact general rfl
  | _ => cases b <;> exact general rfl
theorem in_core (hu : X.A.units + 65 < cLine) (neg : Bool) : OpR X (compareOp (if neg then .NotIn else .In)) (rc X.K fun M a b => (inD M a b).map fun k => xor neg k) := by
  intro pins s σ H x y v u Q I rx ry h
  obtain ⟨β, M, a, b, k0, hp, ra, rb, e, q⟩ := h
  dsimp only at e
  have strz : ∀ (z w : List Nat) (k : Bool), a = D.str z → b = D.str w → (!(Builtin.Str.occurrences ⟨w.toArray⟩ ⟨z.toArray⟩ 0 w.length 1).isEmpty) = k → xor neg k = k0 → wpAny (model X.prog X.w) X.A (compareOp (if neg then .NotIn else .In) v u) (EP X pins σ Q) X.xe s := fun z w k ea eb hk e3 => by
    subst ea eb
    obtain ⟨_, rfl⟩ := ra.strI
    obtain ⟨_, rfl⟩ := rb.strI
    cases neg with
    | true => exact L2.op_notIn_str pins s σ H _ _ v u Q I rx ry ⟨_, _, rfl, rfl, bl_eq q (by rw [← e3, len_str_arr, hk]; simp)⟩
    | false => exact op_in_str pins s σ H _ _ v u Q I rx ry ⟨_, _, rfl, rfl, bl_eq q (by rw [← e3, len_str_arr, hk]; simp)⟩
  have seqs : inD M a b = ((seqOf M b).bind fun xs => if flat a && xs.all flat then some (xs.any fun y => eqFlat y a) else inGen M a b) → wpAny (model X.prog X.w) X.A (compareOp (if neg then .NotIn else .In) v u) (EP X pins σ Q) X.xe s := fun h => by
    rw [h] at e
    cases f : seqOf M b with
    | none => rw [f] at e; cases e
    | some xs =>
      rw [f] at e
      have e2 : ((if flat a && xs.all flat then some (xs.any fun y => eqFlat y a) else inGen M a b).map fun k => xor neg k) = some k0 := e
      by_cases hs : (flat a && xs.all flat) = true
      · rw [if_pos hs] at e2
        have e3 : xor neg (xs.any fun y => eqFlat y a) = k0 := Option.some.inj e2
        rw [Bool.and_eq_true] at hs
        obtain ⟨p, vs, rfl, h1, r1⟩ := rb.seqO hp f
        obtain ⟨h2, h3⟩ := inV_rep ra hs.1 r1 hs.2
        cases neg with
        | true => exact op_notIn_seq pins s σ H _ _ v u Q I rx ry ⟨p, vs, rfl, h1, flat_rep ra hs.1, h2, bl_eq q (by rw [← e3, ← h3]; simp)⟩
        | false => exact op_in_seq pins s σ H _ _ v u Q I rx ry ⟨p, vs, rfl, h1, flat_rep ra hs.1, h2, bl_eq q (by rw [← e3, ← h3]; simp)⟩
      · rw [if_neg hs] at e2
        have e3 : (((toPyM M a).bind fun d => (toPyM M b).bind fun e => match e with
          | .list ds => if PySem.SeqAt.shaped d && PySem.SeqAt.shaped (.list ds) then some (ds.any fun z => PyData.eqv z d) else none
          | _ => none).map fun k => xor neg k) = some k0 := e2
        cases f1 : toPyM M a with
        | none => rw [f1] at e3; cases e3
        | some d =>
          cases f2 : toPyM M b with
          | none => rw [f1, f2] at e3; cases e3
          | some d' =>
            rw [f1, f2] at e3
            cases d' with
            | list ds =>
              have e4 : ((if PySem.SeqAt.shaped d && PySem.SeqAt.shaped (.list ds) then some (ds.any fun z => PyData.eqv z d) else none).map fun k => xor neg k) = some k0 := e3
              by_cases hs2 : (PySem.SeqAt.shaped d && PySem.SeqAt.shaped (.list ds)) = true
              · rw [if_pos hs2] at e4
                have e5 : xor neg (ds.any fun z => PyData.eqv z d) = k0 := Option.some.inj e4
                rw [Bool.and_eq_true] at hs2
                cases neg with
                | true => exact op_notInD hu pins s σ H x y v u Q I rx ry ⟨d, ds, ra.dpM hp f1, rb.dpM hp f2, hs2.1, hs2.2, bl_eq q (by rw [← e5]; simp)⟩
                | false => exact op_inD hu pins s σ H x y v u Q I rx ry ⟨d, ds, ra.dpM hp f1, rb.dpM hp f2, hs2.1, hs2.2, bl_eq q (by rw [← e5]; simp)⟩
              · rw [if_neg hs2] at e4
                cases e4
            | _ => cases e3
  cases b with
  | str w =>
    cases a with
    | str z =>
      match z, ra, e, strz with
      | [c], ra, e, strz =>
        have e3 : xor neg (decide (c ∈ w)) = k0 := Option.some.inj e
        obtain ⟨_, rfl⟩ := ra.strI
        obtain ⟨_, rfl⟩ := rb.strI
        cases neg with
        | true => exact op_notIn_sign pins s σ H _ _ v u Q I rx ry ⟨c, _, rfl, rfl, bl_eq q (by rw [← e3]; simp)⟩
        | false => exact op_in_sign pins s σ H _ _ v u Q I rx ry ⟨c, _, rfl, rfl, bl_eq q (by rw [← e3]; simp)⟩
      | [], ra, e, strz => exact strz [] w _ rfl rfl rfl (Option.some.inj e)
      | c :: c' :: r, ra, e, strz => exact strz (c :: c' :: r) w _ rfl rfl rfl (Option.some.inj e)
    | _ => exact seqs rfl
  | _ =>
    cases a with
    | str z => match z, seqs with
      | [c], seqs => exact seqs rfl
      | [], seqs => exact seqs rfl
      | c :: c' :: r, seqs => exact seqs rfl
    | _ => exact seqs rfl
theorem cmp_int {f : Value → Value → Sem Value} {g : Int → Int → Bool} (rule : OpR X f (rI0 fun i j => .bl (g i j))) {o : CmpOp} (hd : ∀ M a b k, cmpD M o a b = some k → ∃ i j, a = .int i ∧ b = .int j ∧ k = g i j) :
    OpR X f (rc X.K fun M a b => cmpD M o a b) := by
  intro pins s σ H x y v u Q I rx ry h
  obtain ⟨β, M, a, b, k, hp, ra, rb, e, q⟩ := h
  obtain ⟨i, j, rfl, rfl, rfl⟩ := hd M a b k e
  exact rule pins s σ H x y v u Q I rx ry ⟨i, j, ra, rb, q⟩
theorem OpR.imp {f : Value → Value → Sem Value} {r r' : R2} (h : OpR X f r) (hi : ∀ x y H Q, r' x y H Q → r x y H Q) : OpR X f r' := fun pins s σ H x y v u Q I rx ry q => h pins s σ H x y v u Q I rx ry (hi x y H Q q)
theorem cmp_all (hu : X.A.units + 65 < cLine) (o : CmpOp) : OpR X (compareOp o) (rc X.K fun M a b => cmpD M o a b) := by
  cases o with
  | Eq => exact OpR.imp (eq_core (by omega) false) fun x y H Q ⟨β, M, a, b, k, hp, ra, rb, e, q⟩ => ⟨β, M, a, b, k, hp, ra, rb, by
      have e' : eqD M a b = some k := e
      dsimp only
      rw [e']
      simp, q⟩
  | NotEq => exact OpR.imp (eq_core (by omega) true) fun x y H Q ⟨β, M, a, b, k, hp, ra, rb, e, q⟩ => ⟨β, M, a, b, k, hp, ra, rb, by
      have e' : (eqD M a b).map not = some k := e
      dsimp only
      rw [← e']
      congr 1
      funext k
      simp, q⟩
  | In => exact OpR.imp (in_core hu false) fun x y H Q ⟨β, M, a, b, k, hp, ra, rb, e, q⟩ => ⟨β, M, a, b, k, hp, ra, rb, by
      have e' : inD M a b = some k := e
      dsimp only
      rw [e']
      simp, q⟩
  | NotIn => exact OpR.imp (in_core hu true) fun x y H Q ⟨β, M, a, b, k, hp, ra, rb, e, q⟩ => ⟨β, M, a, b, k, hp, ra, rb, by
      have e' : (inD M a b).map not = some k := e
      dsimp only
      rw [← e']
      congr 1
      funext k
      simp, q⟩
  | Lt =>
    intro pins s σ H x y v u Q I rx ry h
    obtain ⟨β, M, a, b, k, hp, ra, rb, e, q⟩ := h
    cases a with
    | int i =>
      cases b with
      | int j => exact op_lt pins s σ H x y v u Q I rx ry ⟨i, j, ra, rb, bl_eq q (Option.some.inj e).symm⟩
      | _ => cases e
    | str i =>
      cases b with
      | str j =>
        obtain ⟨_, rfl⟩ := ra.strI
        obtain ⟨_, rfl⟩ := rb.strI
        exact op_lt_str pins s σ H _ _ v u Q I rx ry ⟨_, _, rfl, rfl, bl_eq q (Option.some.inj e).symm⟩
      | _ => cases e
    | _ => cases b <;> cases e
  | LtE =>
    exact cmp_int op_le fun M a b k e => by
      cases a <;> cases b <;> first | (cases e; done) | exact ⟨_, _, rfl, rfl, (Option.some.inj e).symm⟩
  | Gt =>
    exact cmp_int op_gt fun M a b k e => by
      cases a <;> cases b <;> first | (cases e; done) | exact ⟨_, _, rfl, rfl, (Option.some.inj e).symm⟩
  | GtE =>
    exact cmp_int op_ge fun M a b k e => by
      cases a <;> cases b <;> first | (cases e; done) | exact ⟨_, _, rfl, rfl, (Option.some.inj e).symm⟩
  | Is =>
    intro pins s σ H x y v u Q I rx ry h
    obtain ⟨β, M, a, b, k, hp, ra, rb, e, q⟩ := h
    have e' : b = .non ∧ k = isNon a := by
      cases b with
      | non => cases a <;> exact ⟨rfl, (Option.some.inj e).symm⟩
      | _ => cases a <;> cases e
    obtain ⟨rfl, rfl⟩ := e'
    exact op_isN pins s σ H x y v u Q I rx ry ⟨rb, bl_eq q (isNon_rep ra)⟩
  | IsNot =>
    intro pins s σ H x y v u Q I rx ry h
    obtain ⟨β, M, a, b, k, hp, ra, rb, e, q⟩ := h
    have e' : b = .non ∧ k = !isNon a := by
      cases b with
      | non => cases a <;> exact ⟨rfl, (Option.some.inj e).symm⟩
      | _ => cases a <;> cases e
    obtain ⟨rfl, rfl⟩ := e'
    exact op_notN pins s σ H x y v u Q I rx ry ⟨rb, bl_eq q (by rw [isNon_rep ra])⟩
/-- truth -/
theorem truth_rep {K : PySem.W.Frag} {H : Hp} {β : Bt} {M : MH} {d : D} {v : V} {k : Bool} (hp : HeapR K H β M) (r : Rep K H β M.length d v) (e : truthD M d = some k) : TruV K v H k := by
  have seqs : truthD M d = (seqOf M d).map (fun xs => !xs.isEmpty) → TruV K v H k := fun h => by
    rw [h] at e
    cases f : seqOf M d with
    | none => rw [f] at e; cases e
    | some xs =>
      rw [f] at e
      have e' : (!xs.isEmpty) = k := Option.some.inj e
      obtain ⟨p, vs, rfl, h1, r1⟩ := r.seqO hp f
      have ee : k = !vs.isEmpty := by
        rw [← e']
        have := r1.length
        cases xs <;> cases vs <;> first | rfl | cases this
      rcases h1 with h1 | h1
      · exact .inl ⟨vs, h1, ee⟩
      · exact .inr (.inl ⟨vs, h1, ee⟩)
  cases d with
  | non => rw [show v = V.non from r]; exact (Option.some.inj e).symm
  | bl b => rw [show v = V.bl b from r]; exact (Option.some.inj e).symm
  | int i => rw [r.intI]; exact (Option.some.inj e).symm
  | str s =>
    obtain ⟨h1, rfl⟩ := r.strI
    refine ⟨by rw [len_str_arr, lim_eq]; exact h1, ?_⟩
    rw [← Option.some.inj e, len_str_arr]
    cases s with
    | nil => rfl
    | cons c l =>
      show true = _
      symm
      rw [bne_iff_ne]
      rw [List.length_cons]
      omega
  | _ => exact seqs rfl
end
end LX

set_option Elab.async false
set_option linter.all false
set_option maxRecDepth 100000
set_option maxHeartbeats 2000000
/-! LxPrim3: built-in functions, methods, subscripts, kinds. -/
namespace LX
open PySem L2 PyProof.Rows
/-! ### sorting -/
theorem insI_perm (a : Int) : ∀ l, (insI a l).Perm (a :: l)
  | [] => .refl _
  | b :: r => by
    unfold insI
    by_cases h : a ≤ b
    · rw [if_pos h]
    · rw [if_neg h]
      exact ((insI_perm a r).cons b).trans (.swap ..)
theorem sortI_perm : ∀ l, (sortI l).Perm l
  | [] => .refl _
  | a :: r => (insI_perm a _).trans ((sortI_perm r).cons a)
theorem insI_sorted (a : Int) : ∀ l, l.Pairwise (· ≤ ·) → (insI a l).Pairwise (· ≤ ·)
  | [], _ => by simp [insI]
  | b :: r, h => by
    unfold insI
    by_cases h1 : a ≤ b
    · rw [if_pos h1]
      refine List.pairwise_cons.mpr ⟨fun y hy => ?_, h⟩
      rcases List.mem_cons.mp hy with rfl | hy
      · exact h1
      · exact Int.le_trans h1 ((List.pairwise_cons.mp h).1 y hy)
    · rw [if_neg h1]
      refine List.pairwise_cons.mpr ⟨fun y hy => ?_, insI_sorted a r (List.pairwise_cons.mp h).2⟩
      rcases List.mem_cons.mp ((insI_perm a r).mem_iff.mp hy) with rfl | hy
      · omega
      · exact (List.pairwise_cons.mp h).1 y hy
theorem sortI_sorted : ∀ l, (sortI l).Pairwise (· ≤ ·)
  | [] => .nil
  | a :: r => insI_sorted a _ (sortI_sorted r)
theorem sort_unique {l l' : List Int} (p : l.Perm l') (h : l.Pairwise (· ≤ ·)) (h' : l'.Pairwise (· ≤ ·)) : l = l' :=
  List.Perm.eq_of_pairwise (fun a b _ _ h1 h2 => Int.le_antisymm h1 h2) h h' p
section
variable {K : PySem.W.Frag} {H : Hp} {β : Bt} {N : Nat} {M : MH}
theorem Reps.intsR : ∀ {ds : List D} {vs : List V} {l : List Int}, Reps K H β N ds vs → intsL ds = some l → vs = l.map V.int
  | [], _, _, r, e => by
    unfold Reps at r
    subst r
    cases e
    rfl
  | d :: ds, _, l, r, e => by
    unfold Reps at r
    obtain ⟨v, w, rfl, r1, r2⟩ := r
    cases d with
    | int i =>
      have e' : (intsL ds).map (fun l => i :: l) = some l := e
      cases f : intsL ds with
      | none => rw [f] at e'; cases e'
      | some l' =>
        rw [f] at e'
        cases e'
        rw [r1.intI, Reps.intsR r2 f]
        rfl
    | _ => cases e
theorem Reps.strsR : ∀ {ds : List D} {vs : List V} {l : List (List Nat)}, Reps K H β N ds vs → strsL ds = some l → vs = (l.map fun s => (⟨s.toArray⟩ : Str)).map V.str
  | [], _, _, r, e => by
    unfold Reps at r
    subst r
    cases e
    rfl
  | d :: ds, _, l, r, e => by
    unfold Reps at r
    obtain ⟨v, w, rfl, r1, r2⟩ := r
    cases d with
    | str s =>
      have e' : (strsL ds).map (fun l => s :: l) = some l := e
      cases f : strsL ds with
      | none => rw [f] at e'; cases e'
      | some l' =>
        rw [f] at e'
        cases e'
        rw [r1.strI.2, Reps.strsR r2 f]
        rfl
    | _ => cases e
theorem Reps.ofInts (l : List Int) : Reps K H β N (l.map D.int) (l.map V.int) := by
  induction l with
  | nil => exact .nil
  | cons i r ih => exact .cons (show Rep K H β N (.int i) (.int i) from rfl) ih
theorem maxI_mem : ∀ {l : List Int} {m : Int}, maxI l = some m → m ∈ l ∧ ∀ y, y ∈ l → y ≤ m
  | [], _, e => by cases e
  | [a], m, e => by
    have e' : a = m := Option.some.inj e
    subst e'
    exact ⟨by simp, fun y hy => by rw [List.mem_singleton.mp hy]; exact Int.le_refl _⟩
  | a :: b :: r, m, e => by
    have e' : (maxI (b :: r)).map (fun b => if b > a then b else a) = some m := e
    cases f : maxI (b :: r) with
    | none => rw [f] at e'; cases e'
    | some c =>
      rw [f] at e'
      have e2 : (if c > a then c else a) = m := Option.some.inj e'
      obtain ⟨h1, h2⟩ := maxI_mem f
      by_cases h : c > a
      · rw [if_pos h] at e2
        subst e2
        refine ⟨List.mem_cons_of_mem _ h1, fun y hy => ?_⟩
        rcases List.mem_cons.mp hy with rfl | hy
        · exact Int.le_of_lt h
        · exact h2 y hy
      · rw [if_neg h] at e2
        subst e2
        refine ⟨List.mem_cons_self, fun y hy => ?_⟩
        rcases List.mem_cons.mp hy with rfl | hy
        · exact Int.le_refl _
        · exact Int.le_trans (h2 y hy) (Int.not_lt.mp h)
theorem minI_mem : ∀ {l : List Int} {m : Int}, minI l = some m → m ∈ l ∧ ∀ y, y ∈ l → m ≤ y
  | [], _, e => by cases e
  | [a], m, e => by
    have e' : a = m := Option.some.inj e
    subst e'
    exact ⟨by simp, fun y hy => by rw [List.mem_singleton.mp hy]; exact Int.le_refl _⟩
  | a :: b :: r, m, e => by
    have e' : (minI (b :: r)).map (fun b => if b < a then b else a) = some m := e
    cases f : minI (b :: r) with
    | none => rw [f] at e'; cases e'
    | some c =>
      rw [f] at e'
      have e2 : (if c < a then c else a) = m := Option.some.inj e'
      obtain ⟨h1, h2⟩ := minI_mem f
      by_cases h : c < a
      · rw [if_pos h] at e2
        subst e2
        refine ⟨List.mem_cons_of_mem _ h1, fun y hy => ?_⟩
        rcases List.mem_cons.mp hy with rfl | hy
        · exact Int.le_of_lt h
        · exact h2 y hy
      · rw [if_neg h] at e2
        subst e2
        refine ⟨List.mem_cons_self, fun y hy => ?_⟩
        rcases List.mem_cons.mp hy with rfl | hy
        · exact Int.le_refl _
        · exact Int.le_trans (Int.not_lt.mp h) (h2 y hy)
theorem atI_rep {ds : List D} {vs : List V} {i : Int} {d : D} (r : Reps K H β N ds vs) (e : atI ds i = some d) : ∃ v, atI vs i = some v ∧ Rep K H β N d v := by
  unfold atI at e ⊢
  rw [r.length]
  cases f : ixN ds.length i with
  | none => rw [f] at e; cases e
  | some j =>
    rw [f] at e
    exact r.get (show ds[j]? = some d from e)
theorem cut_rep {ds : List D} {vs : List V} (r : Reps K H β N ds vs) (lo hi : Option Int) : Reps K H β N (cutL ds lo hi) (cutV vs lo hi) := by
  unfold cutL cutV
  rw [r.length]
  exact (r.drop _).take _
end
/-- the built-in's value -/
def bfV : Bf → Value
  | .len => .builtin "len" | .abs => .builtin "abs" | .int => .type "int" | .max2 => .builtin "max" | .min2 => .builtin "min" | .maxL => .builtin "max" | .minL => .builtin "min"
  | .sum => .builtin "sum" | .sorted => .builtin "sorted" | .list => .type "list" | .tuple => .type "tuple" | .str => .type "str"
theorem joinS_eq (a : List Nat) : ∀ l : List (List Nat), (Txt.join ⟨a.toArray⟩ (l.map fun s => (⟨s.toArray⟩ : Str))) = ⟨(joinS a l).toArray⟩
  | [] => rfl
  | [p] => rfl
  | p :: q :: r => by
    have ih := joinS_eq a (q :: r)
    have e : Txt.join (⟨a.toArray⟩ : Str) ((p :: q :: r).map fun s => (⟨s.toArray⟩ : Str)) = (⟨p.toArray⟩ : Str) ++ ⟨a.toArray⟩ ++ Txt.join ⟨a.toArray⟩ ((q :: r).map fun s => (⟨s.toArray⟩ : Str)) := by
      show PySem.Builtin.Str.glued _ _ = _ ++ _ ++ PySem.Builtin.Str.glued _ _
      rw [PySem.StrLaws.glued_eq_join, PySem.StrLaws.glued_eq_join]
      rfl
    rw [e, ih, app_str_arr, app_str_arr, List.append_assoc]
    rfl
theorem joinS_len (a : List Nat) : ∀ l : List (List Nat), (joinS a l).length ≤ (l.map List.length).sum + l.length * a.length
  | [] => by simp [joinS]
  | [p] => by simp [joinS]
  | p :: q :: r => by
    have ih := joinS_len a (q :: r)
    show (p ++ (a ++ joinS a (q :: r))).length ≤ _
    rw [List.length_append, List.length_append, List.map_cons, List.sum_cons, List.length_cons (a := p), Nat.succ_mul]
    omega
section
variable {X : Cx} {W : WX} {xa : Nat → Addr} {σ0 : L2.St}
theorem chars_rep {K : PySem.W.Frag} {H : Hp} {β : Bt} {N : Nat} : ∀ s : List Nat, Reps K H β N (s.map fun c => D.str [c]) (s.map fun c => V.str ⟨#[c]⟩)
  | [] => Reps.nil
  | c :: s => .cons (Rep.mkStr (s := [c]) (by show 1 ≤ lim; decide)) (chars_rep s)
theorem fn_all (hc : X.calm = true) (m : Bool) (b : Bf) : CallR X (bfV b) fun vs H Q => ∃ β M ds, HeapR X.K H β M ∧ Reps X.K H β M.length ds vs ∧ Post X.K W xa (RD X.K) σ0 H β M.length (fnD m M b ds) Q := by
  intro pins s σ H vs us Q I r h
  obtain ⟨β, M, ds, hp, rs, h⟩ := h
  have one : ∀ {d : D}, Reps X.K H β M.length [d] vs → ∃ v, vs = [v] ∧ Rep X.K H β M.length d v := fun {d} rs => by
    unfold Reps at rs
    obtain ⟨v, w, rfl, r1, r2⟩ := rs
    unfold Reps at r2
    subst r2
    exact ⟨v, rfl, r1⟩
  have two : ∀ {d e : D}, Reps X.K H β M.length [d, e] vs → ∃ v u, vs = [v, u] ∧ Rep X.K H β M.length d v ∧ Rep X.K H β M.length e u := fun {d e} rs => by
    unfold Reps at rs
    obtain ⟨v, w, rfl, r1, r2⟩ := rs
    unfold Reps at r2
    obtain ⟨u, w', rfl, r2, r3⟩ := r2
    unfold Reps at r3
    subst r3
    exact ⟨v, u, rfl, r1, r2⟩
  unfold fnD at h
  split at h
  · -- len of a text
    obtain ⟨v, rfl, r1⟩ := one rs
    obtain ⟨hz, rfl⟩ := r1.strI
    exact call_len pins s σ H _ us Q I r ⟨_, _, rfl, ⟨by rw [len_str_arr, lim_eq]; exact hz, (len_str_arr _).symm⟩, Post.okv hp h rfl⟩
  · obtain ⟨v, rfl, r1⟩ := one rs
    obtain ⟨xs, e1, h⟩ := h.ofO
    obtain ⟨p, ws, rfl, h1, r2⟩ := r1.seqO hp e1
    refine call_len pins s σ H _ us Q I r ⟨_, xs.length, rfl, ?_, h.okv hp rfl⟩
    rcases h1 with h1 | h1
    · exact .inl ⟨ws, h1, r2.length.symm⟩
    · exact .inr ⟨ws, h1, r2.length.symm⟩
  · obtain ⟨v, rfl, r1⟩ := one rs
    exact call_abs pins s σ H _ us Q I r ⟨_, by rw [r1.intI], h.okv hp rfl⟩
  · obtain ⟨v, rfl, r1⟩ := one rs
    exact call_int1 pins s σ H _ us Q I r (.inl ⟨_, by rw [r1.intI], h.okv hp rfl⟩)
  · obtain ⟨v, rfl, r1⟩ := one rs
    exact call_int1 pins s σ H _ us Q I r (.inr ⟨_, by rw [show v = V.bl _ from r1], h.okv hp rfl⟩)
  · obtain ⟨v, rfl, r1⟩ := one rs
    obtain ⟨hl, h⟩ := Post.ite h
    obtain ⟨n, e1, h⟩ := h.ofO
    obtain ⟨_, rfl⟩ := r1.strI
    exact call_int_str pins s σ H _ us Q I r ⟨_, n, rfl, e1, by rw [len_str_arr]; exact hl, h.okv hp rfl⟩
  · obtain ⟨v, u, rfl, r1, r2⟩ := two rs
    exact call_max2 hc pins s σ H _ us Q I r ⟨_, _, by rw [r1.intI, r2.intI], h.okv hp rfl⟩
  · obtain ⟨v, u, rfl, r1, r2⟩ := two rs
    exact call_min2 hc pins s σ H _ us Q I r ⟨_, _, by rw [r1.intI, r2.intI], h.okv hp rfl⟩
  · obtain ⟨v, rfl, r1⟩ := one rs
    obtain ⟨l, e1, h⟩ := h.ofO
    obtain ⟨k, e2, h⟩ := h.ofO
    obtain ⟨xs, e3, e4⟩ := Option.bind_eq_some_iff.mp e1
    obtain ⟨p, ws, rfl, h1, r2⟩ := r1.tlO hp e3
    have e5 := r2.intsR e4
    subst e5
    obtain ⟨m1, m2⟩ := maxI_mem e2
    refine cr_max hc pins s σ H _ us Q I r ⟨p, l, rfl, SqL.of h1, List.length_pos_of_mem m1, fun m' q1 q2 => ?_⟩
    have : m' = k := Int.le_antisymm (m2 _ q1) (q2 _ m1)
    subst this
    exact h.okv hp rfl
  · obtain ⟨v, rfl, r1⟩ := one rs
    obtain ⟨l, e1, h⟩ := h.ofO
    obtain ⟨k, e2, h⟩ := h.ofO
    obtain ⟨xs, e3, e4⟩ := Option.bind_eq_some_iff.mp e1
    obtain ⟨p, ws, rfl, h1, r2⟩ := r1.tlO hp e3
    have e5 := r2.intsR e4
    subst e5
    obtain ⟨m1, m2⟩ := minI_mem e2
    refine cr_min hc pins s σ H _ us Q I r ⟨p, l, rfl, SqL.of h1, List.length_pos_of_mem m1, fun m' q1 q2 => ?_⟩
    have : m' = k := Int.le_antisymm (q2 _ m1) (m2 _ q1)
    subst this
    exact h.okv hp rfl
  · obtain ⟨v, rfl, r1⟩ := one rs
    obtain ⟨l, e1, h⟩ := h.ofO
    obtain ⟨xs, e3, e4⟩ := Option.bind_eq_some_iff.mp e1
    obtain ⟨p, ws, rfl, h1, r2⟩ := r1.tlO hp e3
    have e5 := r2.intsR e4
    subst e5
    exact cr_sum hc pins s σ H _ us Q I r ⟨p, l, rfl, SqL.of h1, h.okv hp rfl⟩
  · obtain ⟨v, rfl, r1⟩ := one rs
    obtain ⟨hz, rfl⟩ := r1.strI
    refine call_list_str hc pins s σ H _ us Q I r ⟨_, rfl, by rw [len_str_arr, lim_eq]; exact hz, h.newL hp ?_⟩
    exact chars_rep _
  · obtain ⟨v, rfl, r1⟩ := one rs
    obtain ⟨xs, e1, h⟩ := h.ofO
    obtain ⟨p, ws, rfl, h1, r2⟩ := r1.seqO hp e1
    exact call_list_of pins s σ H _ us Q I r ⟨p, ws, rfl, h1, h.newL hp r2⟩
  · obtain ⟨v, rfl, r1⟩ := one rs
    obtain ⟨hz, rfl⟩ := r1.strI
    refine call_tupS hc pins s σ H _ us Q I r ⟨_, rfl, by rw [len_str_arr, lim_eq]; exact hz, h.tup hp ?_⟩
    exact chars_rep _
  · obtain ⟨v, rfl, r1⟩ := one rs
    obtain ⟨xs, e1, h⟩ := h.ofO
    obtain ⟨p, ws, rfl, h1, r2⟩ := r1.seqO hp e1
    refine call_tuple_of pins s σ H _ us Q I r ⟨p, ws, rfl, ?_⟩
    rcases h1 with h1 | h1
    · exact .inl ⟨h1, h.tup hp r2⟩
    · refine .inr ⟨h1, h.okv hp ?_⟩
      unfold Rep
      exact ⟨p, ws, rfl, h1, r2⟩
  · obtain ⟨v, rfl, r1⟩ := one rs
    obtain ⟨hz, h⟩ := Post.ite h
    rw [Bool.and_eq_true] at hz
    refine call_str_int pins s σ H _ us Q I r ⟨_, by rw [r1.intI], of_decide_eq_true hz.1, ?_⟩
    have q := h.okv hp (.mkStr (of_decide_eq_true hz.2))
    exact q
  · obtain ⟨v, rfl, r1⟩ := one rs
    obtain ⟨l, e1, h⟩ := h.ofO
    obtain ⟨hz, h⟩ := Post.ite h
    obtain ⟨xs, e3, e4⟩ := Option.bind_eq_some_iff.mp e1
    obtain ⟨p, ws, rfl, h1, r2⟩ := r1.tlO hp e3
    have e5 := r2.intsR e4
    subst e5
    refine cr_sorted pins s σ H _ us Q I r ⟨p, l, rfl, SqL.of h1, hz, fun ns' a q1 q2 q3 => ?_⟩
    have : ns' = sortI l := sort_unique (q1.trans (sortI_perm l).symm) q2 (sortI_sorted l)
    subst this
    exact h.newL hp (Reps.ofInts _) a q3
  · exact h.elim
end
end LX

set_option Elab.async false
set_option linter.all false
set_option maxRecDepth 100000
set_option maxHeartbeats 2000000
/-! LxRev: [::-1] of texts and tuples. -/
namespace LX
open PySem L2 PyProof.Rows
theorem rev_adj (n : Nat) : Builtin.Slice.sliceAdjust none none (-1) (n : Int) = ((n : Int) - 1, -1) := by
  unfold Builtin.Slice.sliceAdjust
  rfl
theorem rev_places (n : Nat) : Builtin.Slice.slicePlaces ((n : Int) - 1) (-1) (-1) = n := by
  unfold Builtin.Slice.slicePlaces
  have h1 : ¬ ((-1 : Int) > 0) := by decide
  simp only [h1, if_false]
  rw [show (- -1 : Int) = 1 by decide, Int.ediv_one]
  split <;> omega
theorem rev_pick {α : Type} (xs : Array α) : ((List.range xs.size).filterMap fun (m : Nat) => xs[((xs.size : Int) - 1 + (m : Int) * (-1)).toNat]?) = xs.toList.reverse := by
  have h := PySem.W.krv_all xs
  have e : (List.range xs.size).filterMap (fun (m : Nat) => xs[((xs.size : Int) - 1 + (m : Int) * (-1)).toNat]?) = ((List.range xs.size).map fun k => xs.size - 1 - k).filterMap (xs[·]?) := by
    rw [List.filterMap_map]
    congr 1
    funext m
    show xs[((xs.size : Int) - 1 + (m : Int) * (-1)).toNat]? = xs[xs.size - 1 - m]?
    have : ((xs.size : Int) - 1 + (m : Int) * (-1)).toNat = xs.size - 1 - m := by omega
    rw [this]
  rw [e, PySem.W.krv_range, List.filterMap_reverse, h]
section
variable {prog : Program} {w : World} {A : Around} {E : Value → Shared → Prop} {s : Shared}
theorem getItem_tuple_rev {t sl : Addr} {items : Array Value} {st : Tok} {Q : Value → Shared → Prop} (ht : IsTup s.heap t items) (hs : s.heap.IsSliceOf sl .none .none (.int (-1) st))
    (h : Q (.ref s.heap.objs.size) { s with heap := s.heap.push { cls := .type "tuple", data := .seq items.toList.reverse.toArray } })
    (hsz : items.size ≤ sizeLine) : wpAny (model prog w) A (getItem (.ref t) (.ref sl)) Q E s := by
  have htake : sizeOk (.seq items.toList.reverse.toArray) := by
    show items.toList.reverse.toArray.size ≤ sizeLine
    rw [List.size_toArray, List.length_reverse, Array.length_toList]
    exact hsz
  obtain ⟨os, hos, hcs, hds⟩ := id hs
  have hTs : s.TypeIs (.ref sl) "slice" := ⟨os, hos, hcs⟩
  unfold getItem
  try with_reducible refine wpAny_holding ?_
  first | refine wpAny_bind (wpAny_pure ?_) | skip
  refine wpAny_bind (wpAny_sequenceKey ht.typeIs (by decide) ?_)
  refine wpAny_bind (wpAny_callSpecial?_slot (name := Str.ofString "__getitem__") ht.typeIs PyProof.Rows.slot_tuple_getitem
    (wpAny_call_entry PyProof.Rows.slot_tuple_getitem ht.typeIs entry_tuple_getitem ?_ (args_tuple_getitem _ _)))
  show wpAny _ _ (Builtin.Tuple.tupleItemsOf (.ref t) >>= _) _ _ s
  refine wpAny_bind (tupleItemsOf_ ht ?_)
  refine wpAny_bind (wpAny_typeOf hTs ?_)
  rw [if_pos (by decide)]
  have SA : ∀ {A : Around} {Q : Int × Int × Nat → Shared → Prop}, Q ((items.size : Int) - 1, -1, items.size) s → wpAny (model prog w) A (Builtin.Slice.sliceApplied (.ref sl) (pure (items.size : Int))) Q E s := fun {A Q} q => by
    unfold Builtin.Slice.sliceApplied Builtin.Slice.sliceFields
    refine wpAny_bind (wpAny_bind (wpAny_field hos hds (x := .none) rfl (wpAny_bind (wpAny_field hos hds (x := .none) rfl (wpAny_bind (wpAny_field hos hds (x := .int (-1) st) rfl (wpAny_pure ?_)))))))
    refine wpAny_bind (slicePart_int ?_)
    show wpAny _ _ (if ((-1 : Int) == 0) = true then _ else _) _ _ s
    rw [if_neg (by decide)]
    refine wpAny_bind (slicePart_none (wpAny_bind (slicePart_none (wpAny_bind (wpAny_pure ?_)))))
    show wpAny _ _ (match Builtin.Slice.sliceAdjust none none (-1) (items.size : Int) with | (lo, hi) => pure (lo, (-1 : Int), Builtin.Slice.slicePlaces lo hi (-1))) _ _ s
    rw [rev_adj]
    show wpAny _ _ (pure ((items.size : Int) - 1, (-1 : Int), Builtin.Slice.slicePlaces ((items.size : Int) - 1) (-1) (-1))) _ _ s
    rw [rev_places]
    exact wpAny_pure q
  refine wpAny_bind (SA ?_)
  have hno : ¬ ((((items.size : Int) - 1) == 0 && (-1 : Int) == 1 && items.size == items.size) = true) := by
    rw [show ((-1 : Int) == 1) = false from rfl, Bool.and_false, Bool.false_and]
    exact Bool.false_ne_true
  show wpAny _ _ (if (((items.size : Int) - 1) == 0 && (-1 : Int) == 1 && items.size == items.size) = true then _ else _) _ _ s
  rw [if_neg hno, rev_pick]
  first
    | exact wpAny_bind (m := Builtin.Tuple.tupleExact _) (wpAny_newObj_type (wpAny_pure ⟨_, rfl, wpAny_pure h⟩) htake)
    | exact wpAny_bind (m := Builtin.Tuple.tupleExact _) (wpAny_newObj_type (wpAny_bind (wpAny_pure (wpAny_pure ⟨_, rfl, wpAny_pure h⟩))) htake)
    | exact wpAny_bind (wpAny_bind (m := Builtin.Tuple.tupleExact _) (wpAny_newObj_type (wpAny_pure (wpAny_pure ⟨_, rfl, wpAny_pure h⟩)) htake))
    | exact wpAny_bind (wpAny_bind (m := Builtin.Tuple.tupleExact _) (wpAny_newObj_type (wpAny_pure ⟨_, rfl, wpAny_pure h⟩) htake))
theorem rev_ix (n : Nat) : Builtin.Str.strSliceIndices none none (-1) n = (List.range n).reverse := by
  show sliceRange ((n : Int) - 1) (-1) (-1) = _
  rw [PySem.W.krv_sliceRange, PySem.W.krv_range]
end
section
variable {X : Cx}
def rRev (K : PySem.W.Frag) : V → Hp → VK → Prop := fun x H Q => (∃ z, x = .str z ∧ z.length ≤ sizeLine ∧ Q (.str ⟨z.cps.toList.reverse.toArray⟩) H) ∨ (∃ a xs, x = .ref a ∧ SqT K H a xs ∧ ∀ p, H p = none → Q (.ref p) (upd H p (.tup xs.reverse))) ∨
  ∃ a xs, x = .ref a ∧ SqL K H a xs ∧ ∀ p, H p = none → Q (.ref p) (upd H p (.lst xs.reverse))
theorem pe_rev {e : Expr} {te : TE} {k : Nat} {p1 p2 p3 pos : Pos} (he : PE X e te) : PE X (.Subscript e (.Slice none none (some (.UnaryOp .USub (.Constant (.int 1) k p1) p2)) p3) pos) (tUn (rRev X.K) te) := by
  refine ⟨fun pins s σ H Q I h => ?_⟩
  refine Subscript_ (thn (he.run pins s σ H _ I h) fun v s1 ⟨x, H1, I1, r1, q1⟩ => ?_)
  have hst : PO X (some (.UnaryOp .USub (.Constant (.int 1) k p1) p2)) (tPart (tUn (rU fun i => .int (-i)) (tC (.int 1)))) := po_some (pe_un un_neg pe_int)
  refine wpAny_Slice (thn (po_none.run pins s1 σ H1 (fun o H2 => o = none ∧ H2 = H1) I1 ⟨rfl, rfl⟩) fun vl s2 ⟨l, H2, I2, pl, el, e2⟩ => ?_)
  subst el e2
  refine thn (po_none.run pins s2 σ H2 (fun o H3 => o = none ∧ H3 = H2) I2 ⟨rfl, rfl⟩) fun vu s3 ⟨u, H3, I3, pu, eu, e3⟩ => ?_
  subst eu e3
  refine thn (hst.run pins s3 σ H3 (fun o H4 => o = some (-1) ∧ H4 = H3) I3 ⟨1, rfl, -1, rfl, rfl, rfl⟩) fun vs s4 ⟨o, H4, I4, ps, eo, e4⟩ => ?_
  subst eo e4
  have I5 : Inv X pins σ H4 { s4 with heap := s4.heap.push { cls := .type "slice", data := .fields #[vl, vu, vs] } } := I4.kept (t' := s4.toks) fun b ob q => Heap.get?_push_of_some _ q
  have hsl := Heap.IsSliceOf.new s4.heap vl vu vs
  cases pl
  cases pu
  cases ps with
  | int i st =>
  show wpAny (model X.prog X.w) X.A (subscriptTail e (.Slice none none (some (.UnaryOp .USub (.Constant (.int 1) k p1) p2)) p3) v (.ref s4.heap.objs.size)) (EP X pins σ Q) X.xe { s4 with heap := s4.heap.push { cls := .type "slice", data := .fields #[.none, .none, .int (-1) st] } }
  rcases q1 with ⟨z, rfl, hz, q⟩ | ⟨a, xs, rfl, hx, q⟩ | ⟨a, xs, rfl, hx, q⟩
  · obtain ⟨t, rfl⟩ := r1
    refine tail_any (ops := [.str z t, .ref s4.heap.objs.size]) (typeIs_str _ _ _) F.slot_str_getitem.lookup ?_ (by with_unfolding_all rfl)
    obtain ⟨os, hos, hcs, hds⟩ := hsl
    refine wpAny_getItem_str_slice (l := none) (u := none) (st := some (-1, st)) ⟨os, hos, hcs, hds⟩ rfl ?_
    have e : ((Builtin.Str.strSliceIndices none none (-1) z.length).filterMap (z.cps[·]?)) = z.cps.toList.reverse := by
      rw [rev_ix, List.filterMap_reverse]
      exact congrArg List.reverse (PySem.W.krv_all z.cps)
    have hlen : (⟨z.cps.toList.reverse.toArray⟩ : Str).length ≤ sizeLine := by
      rw [len_str_arr, List.length_reverse, Array.length_toList]
      exact hz
    show Made.post (if ((-1 : Int) == 1 && (Builtin.Str.strSliceIndices none none (-1) z.length).length == z.length) = true then Made.val (.str z t)
      else Made.str ⟨((Builtin.Str.strSliceIndices none none (-1) z.length).filterMap (z.cps[·]?)).toArray⟩) (EP X pins σ Q) _
    rw [show ((-1 : Int) == 1) = false from rfl, Bool.false_and, if_neg Bool.false_ne_true, e]
    exact ⟨hlen, .str _, _, I5.tok _, ⟨_, rfl⟩, q⟩
  · cases r1
    obtain ⟨its, r, ht, hz⟩ := I5.tuple hx
    refine tail_any (ops := [.ref a, .ref s4.heap.objs.size]) ht.typeIs PyProof.Rows.slot_tuple_getitem.lookup ?_ (by with_unfolding_all rfl)
    have hlen := r.length
    refine getItem_tuple_rev ht hsl ?_ (by rw [List.size_toArray, ← hlen]; exact hz)
    refine ⟨.ref _, _, I5.laid (t' := s4.toks) (o := .tup xs.reverse) (fun b ob q => Heap.get?_push_of_some _ q) (Nat.le_refl _) ?_, rfl, q _ (I5.hok.fresh (Nat.le_refl _))⟩
    refine ⟨by rw [List.length_reverse]; exact hz, its.reverse, r.reverse, ?_⟩
    have := IsTup.new (s4.heap.push { cls := .type "slice", data := .fields #[.none, .none, .int (-1) st] }) its.reverse.toArray
    simpa using this
  · cases r1
    obtain ⟨its, r, ht, hz⟩ := I5.list hx
    have hlen := r.length
    refine tail_any (ops := [.ref a, .ref s4.heap.objs.size]) ht.isList.typeIs (PySem.slot_list_getitem.lookup) ?_ (by with_unfolding_all rfl)
    refine wpAny_getItem_list_slice ht.isList hsl .none .none (.int (-1) st) (by decide) ?_ (by rw [List.size_toArray]; omega)
    rw [PySem.W.krv_pick]
    refine ⟨.ref _, _, I5.laid (t' := s4.toks) (o := .lst xs.reverse) (fun b ob q => Heap.get?_push_of_some _ q) (Nat.le_refl _) ?_, rfl, q _ (I5.hok.fresh (Nat.le_refl _))⟩
    exact ⟨by rw [List.length_reverse]; exact hz, _, 0, r.reverse, Heap.get?_push_size _ rfl⟩
end
end LX

set_option Elab.async false
set_option linter.all false
set_option maxRecDepth 100000
set_option maxHeartbeats 2000000
/-! LxExpr: the rules of expressions. -/
namespace LX
open PySem L2 PyProof.Rows
/-- the handled exception: its name's slot, the object, its own dict -/
structure Hx where
  i : Option Nat
  a : Addr
  dx : Addr
/-- how the handled exception stands -/
def HotR (K : PySem.W.Frag) (H : Hp) (β : Bt) (N : Nat) (σ : L2.St) : Option Hx → Option (Nat × Flds) → Prop
  | none, none => True
  | some h, some (_, fs) => (∀ i, h.i = some i → σ[i]? = some (some (.ref h.a))) ∧ ∃ fvs, H h.dx = some (.xd fvs) ∧ ∀ f d, fs.lookup f = some d → ∃ v, fvs.lookup f = some v ∧ Rep K H β N d v
  | _, _ => False
structure SR (K : PySem.W.Frag) (hx : Option Hx) (η : Option (Nat × Flds)) (H : Hp) (β : Bt) (M : MH) (ρ : Env) (σ : L2.St) : Prop where
  env : EnvR K H β M.length ρ σ
  heap : HeapR K H β M
  hot : HotR K H β M.length σ hx η
section
variable {K : PySem.W.Frag} {W : WX} {xa : Nat → Addr} {hx : Option Hx} {η : Option (Nat × Flds)} {σ : L2.St} {H H' : Hp} {β β' : Bt} {M M' : MH} {ρ : Env}
theorem SR.mono (s : SR K hx η H β M ρ σ) (e : Ext β M.length H β' M'.length H') (hp : HeapR K H' β' M') : SR K hx η H' β' M' ρ σ := by
  refine ⟨s.env.mono s.heap e, hp, ?_⟩
  have q := s.hot
  cases hx with
  | none => cases η with
    | none => trivial
    | some _ => exact q.elim
  | some h => cases η with
    | none => exact q.elim
    | some p =>
      obtain ⟨q1, fvs, q2, q3⟩ := q
      refine ⟨q1, fvs, e.fr _ _ q2 (s.heap.ncell q2 fun _ z => by cases z), fun f d l => ?_⟩
      obtain ⟨v, h1, h2⟩ := q3 f d l
      exact ⟨v, h1, Rep.mono s.heap e h2⟩
theorem Post.mono {α A : Type} {R : Hp → Bt → Nat → α → A → Prop} {N : Nat} {r : Res α} {Q Q' : A → Hp → Prop} (h : Post K W xa R σ H β N r Q) (i : ∀ v H, Q v H → Q' v H) : Post K W xa R σ H β N r Q' := by
  cases r with
  | ok d M' => exact fun β' H' v e hp rv => i _ _ (h β' H' v e hp rv)
  | exn c fs M' => exact h
  | stuck => exact h
theorem Post.okR {α A : Type} {R : Hp → Bt → Nat → α → A → Prop} {d : α} {v : A} {Q : A → Hp → Prop} (hp : HeapR K H β M) (h : Post K W xa R σ H β M.length (.ok d M) Q) (r : R H β M.length d v) : Q v H := h β H v (Ext.refl ..) hp r
/-- nothing is wished of exceptions -/
abbrev WT : WX := fun _ _ _ _ => True
theorem Post.toT {α A : Type} {R : Hp → Bt → Nat → α → A → Prop} {N : Nat} {r : Res α} {Q : A → Hp → Prop} (h : Post K W xa R σ H β N r Q) : Post K WT xa R [] H β N r Q := by
  cases r with
  | ok d M' => exact h
  | exn c fs M' => exact fun _ _ _ _ _ _ _ _ => trivial
  | stuck => exact h
end
/-- the reading of an expression, of a test, of arguments -/
def tR {α A : Type} (R : PySem.W.Frag → Hp → Bt → Nat → α → A → Prop) (K : PySem.W.Frag) (W : WX) (xa : Nat → Addr) (hx : Option Hx) (η : Option (Nat × Flds)) (f : Env → MH → Res α) : L2.St → Hp → (A → Hp → Prop) → Prop :=
  fun σ H Q => ∃ β ρ M, SR K hx η H β M ρ σ ∧ Post K W xa (R K) σ H β M.length (f ρ M) Q
abbrev tD (K : PySem.W.Frag) (W : WX) (xa : Nat → Addr) (hx : Option Hx) (η : Option (Nat × Flds)) (f : Env → MH → Res D) : TE := tR RD K W xa hx η f
abbrev tDs (K : PySem.W.Frag) (W : WX) (xa : Nat → Addr) (hx : Option Hx) (η : Option (Nat × Flds)) (f : Env → MH → Res (List D)) : TA := tR RDs K W xa hx η f
/-- a test: its value is True or False -/
def tT (K : PySem.W.Frag) (W : WX) (xa : Nat → Addr) (hx : Option Hx) (η : Option (Nat × Flds)) (f : Env → MH → Res D) : TT := fun σ H Q => tD K W xa hx η f σ H fun v H1 => ∃ k, v = .bl k ∧ Q k H1
section
variable {X : Cx} {W : WX} {xa : Nat → Addr} {hx : Option Hx} {η : Option (Nat × Flds)} {e a b e3 : Expr} {es : List Expr} {pos : Pos} {fa fb fc : Env → MH → Res D} {fs : Env → MH → Res (List D)}
theorem PE.imp {t t' : TE} (h : PE X e t) (i : ∀ σ H Q, t' σ H Q → t σ H Q) : PE X e t' := ⟨fun pins s σ H Q I q => h.run pins s σ H Q I (i σ H Q q)⟩
theorem PT.imp {t t' : TT} (h : PT X e t) (i : ∀ σ H Q, t' σ H Q → t σ H Q) : PT X e t' := ⟨fun pins s σ H Q I q => h.run pins s σ H Q I (i σ H Q q)⟩
theorem PW.imp {t t' : TT} (h : PW X e t) (i : ∀ σ H Q, t' σ H Q → t σ H Q) : PW X e t' := ⟨fun w pins s σ H Q I q => h.run w pins s σ H Q I (i σ H Q q)⟩
theorem PA.imp {t t' : TA} (h : PA X es t) (i : ∀ σ H Q, t' σ H Q → t σ H Q) : PA X es t' := ⟨fun p pins s σ H Q I q => h.run p pins s σ H Q I (i σ H Q q)⟩
theorem PE.eqf {f g : Env → MH → Res D} (h : PE X e (tD X.K W xa hx η f)) (q : ∀ ρ M, f ρ M = g ρ M) : PE X e (tD X.K W xa hx η g) := by
  have : f = g := funext fun ρ => funext fun M => q ρ M
  rw [← this]
  exact h
/-- one thing, then another, at the same slots -/
theorem tR.seq {α A γ C : Type} {R : PySem.W.Frag → Hp → Bt → Nat → α → A → Prop} {R' : PySem.W.Frag → Hp → Bt → Nat → γ → C → Prop} {K : PySem.W.Frag} {f : Env → MH → Res α} {g : α → Env → MH → Res γ} {σ : L2.St} {H : Hp} {Q : C → Hp → Prop}
    (h : tR R' K W xa hx η (fun ρ M => (f ρ M).bind fun x M => g x ρ M) σ H Q) {P : A → Hp → Prop}
    (i : ∀ β ρ M x v H1, SR K hx η H1 β M ρ σ → R K H1 β M.length x v → Post K W xa (R' K) σ H1 β M.length (g x ρ M) Q → P v H1) : tR R K W xa hx η f σ H P := by
  obtain ⟨β, ρ, M, sr, h⟩ := h
  exact ⟨β, ρ, M, sr, h.bind.mono fun v H1 ⟨β1, M1, x, e1, hp1, r1, h1⟩ => i β1 ρ M1 x v H1 (sr.mono e1 hp1) r1 h1⟩
/-- the same, the first thing's value kept along -/
theorem tR.seq2 {α A γ C : Type} {R : PySem.W.Frag → Hp → Bt → Nat → α → A → Prop} {R' : PySem.W.Frag → Hp → Bt → Nat → γ → C → Prop} {K : PySem.W.Frag} {f : Env → MH → Res α} {g : α → MH → Res γ} {σ : L2.St} {H : Hp} {Q : C → Hp → Prop}
    {β : Bt} {ρ : Env} {M : MH} (sr : SR K hx η H β M ρ σ) (h : Post K W xa (R' K) σ H β M.length ((f ρ M).bind fun x M => g x M) Q) {P : A → Hp → Prop}
    (i : ∀ β1 M1 x v H1, SR K hx η H1 β1 M1 ρ σ → (∀ {d : D} {u : V}, Rep K H β M.length d u → Rep K H1 β1 M1.length d u) → (∀ {d : List D} {u : List V}, Reps K H β M.length d u → Reps K H1 β1 M1.length d u) → R K H1 β1 M1.length x v → Post K W xa (R' K) σ H1 β1 M1.length (g x M1) Q → P v H1) : tR R K W xa hx η f σ H P :=
  ⟨β, ρ, M, sr, h.bind.mono fun v H1 ⟨β1, M1, x, e1, hp1, r1, h1⟩ => i β1 M1 x v H1 (sr.mono e1 hp1) (Rep.mono sr.heap e1) (Reps.mono sr.heap e1) r1 h1⟩
/-! ### names, constants, displays -/
theorem d_var {i : Nat} {x : Str} (hN : X.N[i]? = some x) (hv : Vis X.env.scope x) (hd : (x == ("__debug__" : Str)) = false) (hcd : (x == ("__classdict__" : Str)) = false) :
    PE X (.Name x pos) (tD X.K W xa hx η fun ρ M => match ρ[i]? with
      | some (some d) => .ok d M
      | _ => .stuck) := by
  refine PE.imp (pe_var hN hv hd hcd) fun σ H Q h => ?_
  obtain ⟨β, ρ, M, sr, h⟩ := h
  dsimp only at h
  split at h
  · rename_i d hd
    obtain ⟨v, q1, q2⟩ := sr.env.val i d hd
    exact ⟨v, q1, h.okR sr.heap q2⟩
  · exact h.elim
theorem d_tC {v : V} {d : D} (h : PE X e (tC v)) (r : ∀ H β N, Rep X.K H β N d v) : PE X e (tD X.K W xa hx η fun ρ M => .ok d M) :=
  PE.imp h fun σ H Q ⟨β, ρ, M, sr, h⟩ => h.okR sr.heap (r _ _ _)
theorem da_nil : PA X [] (tDs X.K W xa hx η fun ρ M => .ok [] M) := PA.imp pa_nil fun σ H Q ⟨β, ρ, M, sr, h⟩ => h.okR sr.heap Reps.nil
theorem da_cons (ha : PE X e (tD X.K W xa hx η fa)) (hr : PA X es (tDs X.K W xa hx η fs)) (hs : starEach (e :: es) X.env = (false, eval e X.env) :: starEach es X.env) :
    PA X (e :: es) (tDs X.K W xa hx η fun ρ M => (fa ρ M).bind fun d M => (fs ρ M).bind fun ds M => .ok (d :: ds) M) :=
  PA.imp (pa_cons ha hr hs) fun σ H Q h => tR.seq h fun β ρ M x v H1 sr r1 h1 =>
    tR.seq2 sr h1 fun β2 M2 ds vs H2 sr2 mo _ r2 h2 => h2.okR sr2.heap (.cons (mo r1) r2)
theorem d_tup {x1 : Nat} (h : PA X es (tDs X.K W xa hx η fs)) : PE X (.Tuple es x1 pos) (tD X.K W xa hx η fun ρ M => (fs ρ M).bind fun ds M => if ds.length ≤ lim then .ok (.tup ds) M else .stuck) :=
  PE.imp (pe_tup h) fun σ H Q h => tR.seq h fun β ρ M ds vs H1 sr r1 h1 => by
    obtain ⟨hz, h1⟩ := Post.ite h1
    exact ⟨by rw [r1.length, lim_eq]; exact hz, h1.tup sr.heap r1⟩
theorem d_lst {m : Bool} (h : PA X es (tDs X.K W xa hx η fs)) : PE X (.List es pos) (tD X.K W xa hx η fun ρ M => (fs ρ M).bind fun ds M => if ds.length ≤ lim then newL m ds M else .stuck) :=
  PE.imp (pe_lst h) fun σ H Q h => tR.seq h fun β ρ M ds vs H1 sr r1 h1 => by
    obtain ⟨hz, h1⟩ := Post.ite h1
    exact ⟨by rw [r1.length, lim_eq]; exact hz, h1.newL sr.heap r1⟩
/-! ### operators -/
theorem d_bin {m : Bool} {o : Operator} (ha : PE X a (tD X.K W xa hx η fa)) (hb : PE X b (tD X.K W xa hx η fb)) :
    PE X (.BinOp a o b pos) (tD X.K W xa hx η fun ρ M => (fa ρ M).bind fun x M => (fb ρ M).bind fun y M => binD m M o x y) :=
  PE.imp (pe_op (bin_all (W := WT) (xa := xa) (σ0 := []) m o) ha hb) fun σ H Q h => tR.seq h fun β ρ M x v H1 sr r1 h1 =>
    tR.seq2 sr h1 fun β2 M2 y u H2 sr2 mo _ r2 h2 => ⟨β2, M2, x, y, sr2.heap, mo r1, r2, h2.toT⟩
theorem d_neg (ha : PE X a (tD X.K W xa hx η fa)) : PE X (.UnaryOp .USub a pos) (tD X.K W xa hx η fun ρ M => (fa ρ M).bind fun x M => (ofO (asI x) M).bind fun i M => .ok (.int (-i)) M) :=
  PE.imp (pe_un un_neg ha) fun σ H Q h => tR.seq h fun β ρ M x v H1 sr r1 h1 => by
    obtain ⟨i, e1, h1⟩ := h1.ofO
    cases x with
    | int j =>
      have : j = i := Option.some.inj e1
      subst this
      exact ⟨j, r1, h1.okR sr.heap (show Rep _ _ _ _ (D.int (-j)) (V.int (-j)) from rfl)⟩
    | _ => cases e1
theorem bmark (o : CmpOp) (b : Expr) (h : ∀ es k p, b ≠ .Set es k p) : behindInMarks o b = false := by
  cases b with
  | Set es k p => exact absurd rfl (h es k p)
  | _ => rfl
theorem d_cmp {o : CmpOp} (hu : X.A.units + 65 < cLine) (ha : PE X a (tD X.K W xa hx η fa)) (hb : PE X b (tD X.K W xa hx η fb)) (hm : behindInMarks o b = false) :
    PE X (.Compare a [o] [b] pos) (tD X.K W xa hx η fun ρ M => (fa ρ M).bind fun x M => (fb ρ M).bind fun y M => (ofO (cmpD M o x y) M).bind fun k M => .ok (.bl k) M) :=
  PE.imp (pe_cmpR (cmp_all hu o) ha hb hm) fun σ H Q h => tR.seq h fun β ρ M x v H1 sr r1 h1 =>
    tR.seq2 sr h1 fun β2 M2 y u H2 sr2 mo _ r2 h2 => by
      obtain ⟨k, e1, h2⟩ := h2.ofO
      exact ⟨β2, M2, x, y, k, sr2.heap, mo r1, r2, e1, h2.okR sr2.heap (show Rep _ _ _ _ (D.bl k) (V.bl k) from rfl)⟩
/-! ### truth, and, or, not -/
theorem asBl_some {d : D} {k : Bool} (h : asBl d = some k) : d = .bl k := by
  cases d with
  | bl b => exact congrArg D.bl (Option.some.inj h)
  | _ => cases h
theorem d_and (ha : PE X a (tD X.K W xa hx η fa)) (hb : PE X (.BoolOp .And (b :: es) pos) (tD X.K W xa hx η fb)) :
    PE X (.BoolOp .And (a :: b :: es) pos) (tD X.K W xa hx η fun ρ M => tst (fa ρ M) fun k M => if k then tst (fb ρ M) fun k M => .ok (.bl k) M else .ok (.bl false) M) :=
  PE.imp (pe_and ha hb) fun σ H Q h => tR.seq h fun β ρ M x v H1 sr r1 h1 => by
    obtain ⟨k, e1, h1⟩ := h1.ofO
    have := asBl_some e1
    subst this
    refine ⟨k, r1, ?_⟩
    cases k with
    | true =>
      refine ⟨β, ρ, M, sr, ?_⟩
      refine Post.mono (Post.bind h1) fun v2 H2 ⟨β2, M2, y, e2, hp2, r2, h2⟩ => ?_
      obtain ⟨k2, e3, h2⟩ := h2.ofO
      have := asBl_some e3
      subst this
      exact h2.okR hp2 r2
    | false => exact h1.okR sr.heap rfl
theorem d_or (ha : PE X a (tD X.K W xa hx η fa)) (hb : PE X (.BoolOp .Or (b :: es) pos) (tD X.K W xa hx η fb)) :
    PE X (.BoolOp .Or (a :: b :: es) pos) (tD X.K W xa hx η fun ρ M => tst (fa ρ M) fun k M => if k then .ok (.bl true) M else tst (fb ρ M) fun k M => .ok (.bl k) M) :=
  PE.imp (pe_or ha hb) fun σ H Q h => tR.seq h fun β ρ M x v H1 sr r1 h1 => by
    obtain ⟨k, e1, h1⟩ := h1.ofO
    have := asBl_some e1
    subst this
    refine ⟨k, r1, ?_⟩
    cases k with
    | false =>
      refine ⟨β, ρ, M, sr, ?_⟩
      refine Post.mono (Post.bind h1) fun v2 H2 ⟨β2, M2, y, e2, hp2, r2, h2⟩ => ?_
      obtain ⟨k2, e3, h2⟩ := h2.ofO
      have := asBl_some e3
      subst this
      exact h2.okR hp2 r2
    | true => exact h1.okR sr.heap rfl
theorem d_not (ha : PE X a (tD X.K W xa hx η fa)) : PE X (.UnaryOp .Not a pos) (tD X.K W xa hx η fun ρ M => tst (fa ρ M) fun k M => .ok (.bl (!k)) M) :=
  PE.imp (pe_not ha) fun σ H Q h => tR.seq h fun β ρ M x v H1 sr r1 h1 => by
    obtain ⟨k, e1, h1⟩ := h1.ofO
    have := asBl_some e1
    subst this
    exact ⟨k, r1, h1.okR sr.heap rfl⟩
/-- a test by its value, which is True or False -/
theorem t_val (h : PE X e (tD X.K W xa hx η fa)) (he : ∀ whole, isTrue e X.env whole = (do let v ← whole; standAt e.pos; holding [v] (truthy v))) : PT X e (tT X.K W xa hx η fa) := pt_val h he
theorem t_truth (h : PE X e (tD X.K W xa hx η fa)) (he : ∀ whole, isTrue e X.env whole = (do let v ← whole; standAt e.pos; holding [v] (truthy v))) :
    PT X e (tT X.K W xa hx η fun ρ M => (fa ρ M).bind fun x M => (ofO (truthD M x) M).bind fun k M => .ok (.bl k) M) :=
  PT.imp (pt_truth h he) fun σ H Q h => tR.seq h fun β ρ M x v H1 sr r1 h1 => by
    obtain ⟨k, e2, h1⟩ := h1.ofO
    obtain ⟨k', e3, q⟩ := h1.okR sr.heap (show RD X.K H1 β M.length (D.bl k) (V.bl k) from rfl)
    cases e3
    exact ⟨k, truth_rep sr.heap r1 e2, q⟩
theorem t_cmp {o : CmpOp} (hu : X.A.units + 65 < cLine) (ha : PE X a (tD X.K W xa hx η fa)) (hb : PE X b (tD X.K W xa hx η fb)) (hm : behindInMarks o b = false) :
    PT X (.Compare a [o] [b] pos) (tT X.K W xa hx η fun ρ M => (fa ρ M).bind fun x M => (fb ρ M).bind fun y M => (ofO (cmpD M o x y) M).bind fun k M => .ok (.bl k) M) :=
  PT.imp (pt_cmpR (cmp_all hu o) ha hb hm) fun σ H Q h => tR.seq h fun β ρ M x v H1 sr r1 h1 => tR.seq2 sr h1 fun β2 M2 y u H2 sr2 mo _ r2 h2 => by
    obtain ⟨k, e1, h2⟩ := h2.ofO
    exact ⟨β2, M2, x, y, k, sr2.heap, mo r1, r2, e1, h2.okR sr2.heap (show RD X.K H2 β2 M2.length (D.bl k) (V.bl k) from rfl)⟩
theorem t_not (ha : PT X a (tT X.K W xa hx η fa)) : PT X (.UnaryOp .Not a pos) (tT X.K W xa hx η fun ρ M => tst (fa ρ M) fun k M => .ok (.bl (!k)) M) :=
  PT.imp (pt_not ha) fun σ H Q h => tR.seq h fun β ρ M x v H1 sr r1 h1 => by
    obtain ⟨k, e1, h1⟩ := h1.ofO
    have := asBl_some e1
    subst this
    obtain ⟨k', e3, q⟩ := h1.okR sr.heap (show RD X.K H1 β M.length (D.bl (!k)) (V.bl (!k)) from rfl)
    cases e3
    exact ⟨k, r1, q⟩
theorem t_and (ha : PT X a (tT X.K W xa hx η fa)) (hb : PW X (.BoolOp .And (b :: es) pos) (tT X.K W xa hx η fb)) :
    PW X (.BoolOp .And (a :: b :: es) pos) (tT X.K W xa hx η fun ρ M => tst (fa ρ M) fun k M => if k then tst (fb ρ M) fun k M => .ok (.bl k) M else .ok (.bl false) M) :=
  PW.imp (pw_and ha hb) fun σ H Q h => tR.seq h fun β ρ M x v H1 sr r1 h1 => by
    obtain ⟨k, e1, h1⟩ := h1.ofO
    have := asBl_some e1
    subst this
    refine ⟨k, r1, ?_⟩
    cases k with
    | true =>
      refine ⟨β, ρ, M, sr, ?_⟩
      refine Post.mono (Post.bind h1) fun v2 H2 ⟨β2, M2, y, e2, hp2, r2, h2⟩ => ?_
      obtain ⟨k2, e3, h2⟩ := h2.ofO
      have := asBl_some e3
      subst this
      exact h2.okR hp2 r2
    | false =>
      obtain ⟨k', e3, q⟩ := h1.okR sr.heap (show RD X.K H1 β M.length (D.bl false) (V.bl false) from rfl)
      cases e3
      exact q
theorem t_or (ha : PT X a (tT X.K W xa hx η fa)) (hb : PW X (.BoolOp .Or (b :: es) pos) (tT X.K W xa hx η fb)) :
    PW X (.BoolOp .Or (a :: b :: es) pos) (tT X.K W xa hx η fun ρ M => tst (fa ρ M) fun k M => if k then .ok (.bl true) M else tst (fb ρ M) fun k M => .ok (.bl k) M) :=
  PW.imp (pw_or ha hb) fun σ H Q h => tR.seq h fun β ρ M x v H1 sr r1 h1 => by
    obtain ⟨k, e1, h1⟩ := h1.ofO
    have := asBl_some e1
    subst this
    refine ⟨k, r1, ?_⟩
    cases k with
    | false =>
      refine ⟨β, ρ, M, sr, ?_⟩
      refine Post.mono (Post.bind h1) fun v2 H2 ⟨β2, M2, y, e2, hp2, r2, h2⟩ => ?_
      obtain ⟨k2, e3, h2⟩ := h2.ofO
      have := asBl_some e3
      subst this
      exact h2.okR hp2 r2
    | true =>
      obtain ⟨k', e3, q⟩ := h1.okR sr.heap (show RD X.K H1 β M.length (D.bl true) (V.bl true) from rfl)
      cases e3
      exact q
theorem d_ite (hc : PT X e3 (tT X.K W xa hx η fc)) (ha : PE X a (tD X.K W xa hx η fa)) (hb : PE X b (tD X.K W xa hx η fb)) :
    PE X (.IfExp e3 a b pos) (tD X.K W xa hx η fun ρ M => tst (fc ρ M) fun k M => if k then fa ρ M else fb ρ M) :=
  PE.imp (pe_ifExp hc ha hb) fun σ H Q h => tR.seq h fun β ρ M x v H1 sr r1 h1 => by
    obtain ⟨k, e1, h1⟩ := h1.ofO
    have := asBl_some e1
    subst this
    refine ⟨k, r1, ?_⟩
    cases k with
    | true => exact ⟨β, ρ, M, sr, h1⟩
    | false => exact ⟨β, ρ, M, sr, h1⟩
/-! ### subscripts -/
theorem ixD_rep {M : MH} {β : Bt} {H : Hp} {x y d : D} {v u : V} {Q : VK} {σ0 : L2.St} (hp : HeapR X.K H β M) (r1 : Rep X.K H β M.length x v) (r2 : Rep X.K H β M.length y u) (e : ixD M x y = some d) (h : Post X.K W xa (RD X.K) σ0 H β M.length (.ok d M) Q) : rIx X.K v u H Q := by
  have seqs : ∀ k, y = .int k → ixD M x y = ((seqOf M x).bind fun xs => atI xs k) → rIx X.K v u H Q := fun k ey h' => by
    subst ey
    rw [h'] at e
    obtain ⟨xs, e1, e2⟩ := Option.bind_eq_some_iff.mp e
    obtain ⟨p, vs, rfl, q, rs⟩ := r1.seqO hp e1
    obtain ⟨w, e3, rw'⟩ := atI_rep rs e2
    rcases q with q | q
    · exact .inl ⟨p, vs, k, w, rfl, r2, q, e3, h.okR hp rw'⟩
    · exact .inr (.inl ⟨p, vs, k, w, rfl, r2, q, e3, h.okR hp rw'⟩)
  cases y with
  | int k =>
    cases x with
    | str s =>
      obtain ⟨hz, rfl⟩ := r1.strI
      have e' : (atI s k).map (fun c => D.str [c]) = some d := e
      cases f : atI s k with
      | none => rw [f] at e'; cases e'
      | some c =>
        rw [f] at e'
        cases e'
        refine .inr (.inr ⟨_, k, c, rfl, r2, by rw [len_str_arr, lim_eq]; exact hz, f, h.okR hp (Rep.mkStr (s := [c]) (by show 1 ≤ lim; decide))⟩)
    | _ => exact seqs k rfl rfl
  | _ => cases x <;> cases e
theorem d_ix (ha : PE X a (tD X.K W xa hx η fa)) (hb : PE X b (tD X.K W xa hx η fb)) (hs : PlainIx b) : PE X (.Subscript a b pos) (tD X.K W xa hx η fun ρ M => (fa ρ M).bind fun x M => (fb ρ M).bind fun y M => ofO (ixD M x y) M) :=
  PE.imp (pe_ix ix_seq ha hb hs) fun σ H Q h => tR.seq h fun β ρ M x v H1 sr r1 h1 => tR.seq2 sr h1 fun β2 M2 y u H2 sr2 mo _ r2 h2 => by
    cases e : ixD M2 x y with
    | none => rw [e] at h2; exact h2.elim
    | some d =>
      rw [e] at h2
      exact ixD_rep sr2.heap (mo r1) r2 e h2
theorem revD_rep {m : Bool} {M : MH} {β : Bt} {H : Hp} {x : D} {v : V} {Q : VK} {σ0 : L2.St} (hp : HeapR X.K H β M) (r1 : Rep X.K H β M.length x v) (h : Post X.K W xa (RD X.K) σ0 H β M.length (revD m M x) Q) : rRev X.K v H Q := by
  have lists : revD m M x = ((ofO (tlOf M x) M).bind fun xs M => LX.newL m xs.reverse M) → rRev X.K v H Q := fun h' => by
    rw [h'] at h
    obtain ⟨xs, e1, h⟩ := h.ofO
    obtain ⟨p, vs, rfl, q, rs⟩ := r1.tlO hp e1
    exact .inr (.inr ⟨p, vs, rfl, SqL.of q, h.newL hp rs.reverse⟩)
  cases x with
  | str s =>
    obtain ⟨hz, rfl⟩ := r1.strI
    refine .inl ⟨_, rfl, by rw [len_str_arr, lim_eq]; exact hz, ?_⟩
    have h' : Post X.K W xa (RD X.K) σ0 H β M.length (.ok (.str s.reverse) M) Q := h
    exact h'.okR hp (Rep.mkStr (by rw [List.length_reverse]; exact hz))
  | tup xs =>
    obtain ⟨p, vs, rfl, q, rs⟩ := r1.tupI
    have h' : Post X.K W xa (RD X.K) σ0 H β M.length (.ok (.tup xs.reverse) M) Q := h
    exact .inr (.inl ⟨p, vs, rfl, q, h'.tup hp rs.reverse⟩)
  | _ => exact lists rfl
theorem d_rev {m : Bool} {k : Nat} {p1 p2 p3 : Pos} (ha : PE X a (tD X.K W xa hx η fa)) : PE X (.Subscript a (.Slice none none (some (.UnaryOp .USub (.Constant (.int 1) k p1) p2)) p3) pos) (tD X.K W xa hx η fun ρ M => (fa ρ M).bind fun x M => revD m M x) :=
  PE.imp (pe_rev ha) fun σ H Q h => tR.seq h fun β ρ M x v H1 sr r1 h1 => revD_rep sr.heap r1 h1
def rSl3 (K : PySem.W.Frag) : V → Option Int → Option Int → Hp → VK → Prop := fun x lo hi H Q => rSlS x lo hi H Q ∨ rSlA K x lo hi H Q ∨ rSlL K x lo hi H Q
theorem sl_3 : SlR X (rSl3 X.K) := SlR.or sl_str (SlR.or sl_tupA sl_list)
theorem cutL_len {α : Type} (xs : List α) (lo hi : Option Int) : (cutL xs lo hi).length ≤ xs.length := by
  unfold cutL
  rw [List.length_take, List.length_drop]
  omega
theorem cutD_rep {m : Bool} {M : MH} {β : Bt} {H : Hp} {x : D} {v : V} {lo hi : Option Int} {Q : VK} {σ0 : L2.St} (hp : HeapR X.K H β M) (r1 : Rep X.K H β M.length x v) (h : Post X.K W xa (RD X.K) σ0 H β M.length (cutD m M x lo hi) Q) : rSl3 X.K v lo hi H Q := by
  have lists : cutD m M x lo hi = ((ofO (tlOf M x) M).bind fun xs M => LX.newL m (cutL xs lo hi) M) → rSl3 X.K v lo hi H Q := fun h' => by
    rw [h'] at h
    obtain ⟨xs, e1, h⟩ := h.ofO
    obtain ⟨p, vs, rfl, q, rs⟩ := r1.tlO hp e1
    exact .inr (.inr ⟨p, vs, rfl, SqL.of q, h.newL hp (cut_rep rs lo hi)⟩)
  cases x with
  | str s =>
    obtain ⟨hz, rfl⟩ := r1.strI
    refine .inl ⟨_, rfl, by rw [len_str_arr, lim_eq]; exact hz, ?_⟩
    have h' : Post X.K W xa (RD X.K) σ0 H β M.length (.ok (.str (cutL s lo hi)) M) Q := h
    have q := h'.okR hp (Rep.mkStr (Nat.le_trans (cutL_len s lo hi) hz))
    have e : cutS (⟨s.toArray⟩ : Str) lo hi = ⟨(cutL s lo hi).toArray⟩ := by
      unfold cutS cutL
      rw [len_str_arr]
    rw [e]
    exact q
  | tup xs =>
    obtain ⟨p, vs, rfl, q, rs⟩ := r1.tupI
    have h' : Post X.K W xa (RD X.K) σ0 H β M.length (.ok (.tup (cutL xs lo hi)) M) Q := h
    refine .inr (.inl ⟨p, vs, rfl, q, fun hw => ?_, fun _ => h'.tup hp (cut_rep rs lo hi)⟩)
    have e : cutL xs lo hi = xs := by
      unfold cutL
      rw [← rs.length, hw.1, hw.2, Nat.sub_zero, List.drop_zero, rs.length, List.take_length]
    rw [e] at h'
    exact h'.okR hp r1
  | fl xs =>
    have h' : Post X.K W xa (RD X.K) σ0 H β M.length (LX.newL m (cutL xs lo hi) M) Q := h
    unfold Rep at r1
    obtain ⟨p, vs, rfl, q, rs⟩ := r1
    exact .inr (.inr ⟨p, vs, rfl, q.sq, h'.newL hp (cut_rep rs lo hi)⟩)
  | _ => exact lists rfl
/-- a slice's bound -/
theorem d_po {s : Sys} {c : Cf} {o : Option Expr} {oe : Option E} (h : ∀ e x, o = some e → oe = some x → PE X e (tD X.K W xa hx η (s.e c x))) (h0 : o.isSome = oe.isSome) : PO X o (fun σ H Q => tR (fun _ => RP) X.K W xa hx η (optE s c oe) σ H Q) := by
  cases o with
  | none =>
    cases oe with
    | some _ => cases h0
    | none => exact ⟨fun pins st σ H Q I q => po_none.run pins st σ H Q I (by
        obtain ⟨β, ρ, M, sr, q⟩ := q
        exact q β H none (Ext.refl ..) sr.heap rfl)⟩
  | some e =>
    cases oe with
    | none => cases h0
    | some x => exact ⟨fun pins st σ H Q I q => (po_some (h e x rfl rfl)).run pins st σ H Q I (by
        refine tR.seq q fun β ρ M y v H1 sr r1 h1 => ?_
        obtain ⟨i, e1, h1⟩ := h1.ofO
        cases y with
        | int j =>
          have : j = i := Option.some.inj e1
          subst this
          exact ⟨j, r1, h1 β H1 (some j) (Ext.refl ..) sr.heap rfl⟩
        | _ => cases e1)⟩
theorem d_cut {m : Bool} {s : Sys} {c : Cf} {lo hi : Option Expr} {lx ux : Option E} {p2 : Pos} (ha : PE X a (tD X.K W xa hx η fa)) (hl : ∀ e x, lo = some e → lx = some x → PE X e (tD X.K W xa hx η (s.e c x))) (hl0 : lo.isSome = lx.isSome)
    (hu : ∀ e x, hi = some e → ux = some x → PE X e (tD X.K W xa hx η (s.e c x))) (hu0 : hi.isSome = ux.isSome) :
    PE X (.Subscript a (.Slice lo hi none p2) pos) (tD X.K W xa hx η fun ρ M => (fa ρ M).bind fun x M => (optE s c lx ρ M).bind fun l M => (optE s c ux ρ M).bind fun h M => cutD m M x l h) :=
  PE.imp (pe_slice sl_3 ha (d_po hl hl0) (d_po hu hu0)) fun σ H Q h => tR.seq h fun β ρ M x v H1 sr r1 h1 => tR.seq2 sr h1 fun β2 M2 l l' H2 sr2 mo _ r2 h2 =>
    tR.seq2 sr2 h2 fun β3 M3 u u' H3 sr3 mo3 _ r3 h3 => by
      have e1 : l = l' := r2
      have e2 : u = u' := r3
      subst e1 e2
      exact cutD_rep sr3.heap (mo3 (mo r1)) h3
end
end LX

set_option Elab.async false
set_option linter.all false
set_option maxRecDepth 100000
set_option maxHeartbeats 2000000
/-! LxStp: [l::2] of texts and tuples. -/
namespace LX
open PySem L2 PyProof.Rows
theorem evry_len {α : Type} : ∀ l : List α, (evry l).length = (l.length + 1) / 2
  | [] => by simp [evry]
  | [a] => by simp [evry]
  | a :: b :: r => by
    show (evry r).length + 1 = (r.length + 1 + 1 + 1) / 2
    rw [evry_len r]
    omega
theorem evry_le {α : Type} (l : List α) : (evry l).length ≤ l.length := by
  rw [evry_len]
  omega
theorem evry_pick {α : Type} : ∀ l : List α, ((List.range ((l.length + 1) / 2)).filterMap fun (m : Nat) => l[2 * m]?) = evry l
  | [] => by simp [evry]
  | [a] => by
    have e : ([a].length + 1) / 2 = 1 := by simp
    rw [e]
    rfl
  | a :: b :: r => by
    have e : ((a :: b :: r).length + 1) / 2 = (r.length + 1) / 2 + 1 := by
      show (r.length + 1 + 1 + 1) / 2 = _
      omega
    have ef : ((fun (m : Nat) => (a :: b :: r)[2 * m]?) ∘ Nat.succ) = fun (m : Nat) => r[2 * m]? := by
      funext m
      show (a :: b :: r)[2 * (m + 1)]? = r[2 * m]?
      rw [show 2 * (m + 1) = 2 * m + 1 + 1 by omega, List.getElem?_cons_succ, List.getElem?_cons_succ]
    rw [e, List.range_succ_eq_map, List.filterMap_cons]
    show a :: _ = a :: evry r
    rw [← evry_pick r, List.filterMap_map, ef]
theorem pick2 {α : Type} (xs : Array α) (j : Nat) : ((List.range ((xs.size - j + 1) / 2)).filterMap fun (m : Nat) => xs[j + 2 * m]?) = evry (xs.toList.drop j) := by
  rw [← evry_pick, List.length_drop, Array.length_toList]
  congr 1
  funext m
  rw [List.getElem?_drop, Array.getElem?_toList]
theorem evry_map {α γ : Type} (f : α → γ) : ∀ l : List α, evry (l.map f) = (evry l).map f
  | [] => rfl
  | [a] => rfl
  | a :: b :: r => by
    show f a :: evry (r.map f) = f a :: (evry r).map f
    rw [evry_map f r]
theorem evry_mem {α : Type} {x : α} : ∀ {l : List α}, x ∈ evry l → x ∈ l
  | [], h => h
  | [a], h => h
  | a :: b :: r, h => by
    rcases List.mem_cons.mp h with rfl | h
    · exact List.mem_cons_self
    · exact List.mem_cons_of_mem _ (List.mem_cons_of_mem _ (evry_mem h))
theorem Reps.evry {K : PySem.W.Frag} {H : Hp} {β : Bt} {N : Nat} : ∀ {ds : List D} {vs : List V}, Reps K H β N ds vs → Reps K H β N (LX.evry ds) (LX.evry vs)
  | [], _, r => by
    unfold Reps at r
    subst r
    exact .nil
  | [d], _, r => by
    obtain ⟨v, w, rfl, r1, r2⟩ := Reps.consI r
    unfold Reps at r2
    subst r2
    exact .one r1
  | d :: e :: ds, _, r => by
    obtain ⟨v, w, rfl, r1, r2⟩ := Reps.consI r
    obtain ⟨u, z, rfl, r3, r4⟩ := Reps.consI r2
    exact Reps.cons r1 (Reps.evry r4)
theorem vals_evry : ∀ {xs : List V} {us : List Value}, Vals xs us → Vals (evry xs) (evry us)
  | [], _, .nil => .nil
  | [_], _, .cons r .nil => .cons r .nil
  | _ :: _ :: _, _, .cons r (.cons _ t) => .cons r (vals_evry t)
/-- where a slice begins -/
abbrev st0 (n : Nat) (l : Option Int) : Nat := min (lo0 l) n
theorem drop_st {α : Type} (l : List α) (o : Option Int) : l.drop (st0 l.length o) = l.drop (lo0 o) := by
  unfold st0
  by_cases h : lo0 o ≤ l.length
  · rw [Nat.min_eq_left h]
  · rw [Nat.min_eq_right (by omega), List.drop_length, List.drop_eq_nil_of_le (by omega)]
theorem adj2 {l : Option Int} (h : loOk l = true) (n : Nat) : Builtin.Slice.sliceAdjust l none 2 (n : Int) = (((st0 n l : Nat) : Int), (n : Int)) := by
  unfold Builtin.Slice.sliceAdjust
  have h1 : ¬ ((2 : Int) < 0) := by omega
  simp only [h1, if_false]
  refine Prod.ext ?_ rfl
  cases l with
  | none => simp [st0, lo0]
  | some v =>
    have hv : 0 ≤ v := of_decide_eq_true h
    show (if v < 0 then max (v + (n : Int)) 0 else min v (n : Int)) = ((min v.toNat n : Nat) : Int)
    rw [if_neg (by omega)]
    omega
theorem places2 (j n : Nat) (h : j ≤ n) : Builtin.Slice.slicePlaces (j : Int) (n : Int) 2 = (n - j + 1) / 2 := by
  unfold Builtin.Slice.slicePlaces
  have h1 : (2 : Int) > 0 := by omega
  simp only [h1, if_true]
  split <;> omega
theorem ix2 {l : Option Int} (h : loOk l = true) (n : Nat) : Builtin.Str.strSliceIndices l none 2 n = (List.range ((n - st0 n l + 1) / 2)).map fun m => st0 n l + 2 * m := by
  have e : Builtin.Str.strSliceIndices l none 2 n = sliceRange ((st0 n l : Nat) : Int) (n : Int) 2 := by
    unfold Builtin.Str.strSliceIndices
    have h1 : (2 : Int) > 0 := by omega
    simp only [h1, if_true]
    cases l with
    | none => simp [st0, lo0]
    | some v =>
      have hv : 0 ≤ v := of_decide_eq_true h
      show sliceRange (max 0 (min (if v < 0 then v + (n : Int) else v) (n : Int))) _ _ = sliceRange ((min v.toNat n : Nat) : Int) _ _
      rw [if_neg (by omega)]
      congr 1
      omega
  rw [e]
  unfold sliceRange
  have h1 : (2 : Int) > 0 := by omega
  simp only [h1, if_true]
  have e2 : (if ((st0 n l : Nat) : Int) < (n : Int) then ((n : Int) - ((st0 n l : Nat) : Int) + 2 - 1) / 2 else 0).toNat = (n - st0 n l + 1) / 2 := by
    have : st0 n l ≤ n := Nat.min_le_right ..
    split <;> omega
  rw [e2]
  refine List.map_congr_left fun m _ => ?_
  omega
section
variable {prog : Program} {w : World} {A : Around} {E : Value → Shared → Prop} {s : Shared}
theorem getItem_tuple_two {t sl : Addr} {items : Array Value} {vl : Value} {l : Option Int} {st : Tok} {Q : Value → Shared → Prop} (ht : IsTup s.heap t items) (hs : s.heap.IsSliceOf sl vl .none (.int 2 st)) (pl : IsPart vl l) (hl : loOk l = true)
    (h : Q (.ref s.heap.objs.size) { s with heap := s.heap.push { cls := .type "tuple", data := .seq (evry (items.toList.drop (lo0 l))).toArray } })
    (hsz : items.size ≤ sizeLine) : wpAny (model prog w) A (getItem (.ref t) (.ref sl)) Q E s := by
  have ez : evry (items.toList.drop (lo0 l)) = evry (items.toList.drop (st0 items.size l)) := by
    rw [← Array.length_toList, drop_st]
  rw [ez] at h
  have htake : sizeOk (.seq (evry (items.toList.drop (st0 items.size l))).toArray) := by
    show (evry (items.toList.drop (st0 items.size l))).toArray.size ≤ sizeLine
    have := evry_le (items.toList.drop (st0 items.size l))
    rw [List.length_drop] at this
    have e0 : items.toList.length = items.size := Array.length_toList
    rw [List.size_toArray]
    omega
  obtain ⟨os, hos, hcs, hds⟩ := id hs
  have hTs : s.TypeIs (.ref sl) "slice" := ⟨os, hos, hcs⟩
  unfold getItem
  try with_reducible refine wpAny_holding ?_
  first | refine wpAny_bind (wpAny_pure ?_) | skip
  refine wpAny_bind (wpAny_sequenceKey ht.typeIs (by decide) ?_)
  refine wpAny_bind (wpAny_callSpecial?_slot (name := Str.ofString "__getitem__") ht.typeIs PyProof.Rows.slot_tuple_getitem
    (wpAny_call_entry PyProof.Rows.slot_tuple_getitem ht.typeIs entry_tuple_getitem ?_ (args_tuple_getitem _ _)))
  show wpAny _ _ (Builtin.Tuple.tupleItemsOf (.ref t) >>= _) _ _ s
  refine wpAny_bind (tupleItemsOf_ ht ?_)
  refine wpAny_bind (wpAny_typeOf hTs ?_)
  rw [if_pos (by decide)]
  have SA : ∀ {A : Around} {Q : Int × Int × Nat → Shared → Prop}, Q (((st0 items.size l : Nat) : Int), 2, (items.size - st0 items.size l + 1) / 2) s → wpAny (model prog w) A (Builtin.Slice.sliceApplied (.ref sl) (pure (items.size : Int))) Q E s := fun {A Q} q => by
    unfold Builtin.Slice.sliceApplied Builtin.Slice.sliceFields
    refine wpAny_bind (wpAny_bind (wpAny_field hos hds (x := vl) rfl (wpAny_bind (wpAny_field hos hds (x := .none) rfl (wpAny_bind (wpAny_field hos hds (x := .int 2 st) rfl (wpAny_pure ?_)))))))
    refine wpAny_bind (slicePart_int ?_)
    show wpAny _ _ (if ((2 : Int) == 0) = true then _ else _) _ _ s
    rw [if_neg (by decide)]
    refine wpAny_bind (HT.slicePart_ pl (wpAny_bind (slicePart_none (wpAny_bind (wpAny_pure ?_)))))
    show wpAny _ _ (match Builtin.Slice.sliceAdjust l none 2 (items.size : Int) with | (lo, hi) => pure (lo, (2 : Int), Builtin.Slice.slicePlaces lo hi 2)) _ _ s
    rw [adj2 hl]
    show wpAny _ _ (pure (((st0 items.size l : Nat) : Int), (2 : Int), Builtin.Slice.slicePlaces ((st0 items.size l : Nat) : Int) (items.size : Int) 2)) _ _ s
    rw [places2 _ _ (Nat.min_le_right ..)]
    exact wpAny_pure q
  refine wpAny_bind (SA ?_)
  have hno : ¬ ((((st0 items.size l : Nat) : Int) == 0 && (2 : Int) == 1 && (items.size - st0 items.size l + 1) / 2 == items.size) = true) := by
    rw [show ((2 : Int) == 1) = false from rfl, Bool.and_false, Bool.false_and]
    exact Bool.false_ne_true
  show wpAny _ _ (if (((st0 items.size l : Nat) : Int) == 0 && (2 : Int) == 1 && (items.size - st0 items.size l + 1) / 2 == items.size) = true then _ else _) _ _ s
  have ep : ((List.range ((items.size - st0 items.size l + 1) / 2)).filterMap fun (m : Nat) => items[(((st0 items.size l : Nat) : Int) + (m : Int) * 2).toNat]?) = evry (items.toList.drop (st0 items.size l)) := by
    rw [← pick2]
    congr 1
    funext m
    rw [show (((st0 items.size l : Nat) : Int) + (m : Int) * 2).toNat = st0 items.size l + 2 * m by omega]
  rw [if_neg hno, ep]
  first
    | exact wpAny_bind (m := Builtin.Tuple.tupleExact _) (wpAny_newObj_type (wpAny_pure ⟨_, rfl, wpAny_pure h⟩) htake)
    | exact wpAny_bind (m := Builtin.Tuple.tupleExact _) (wpAny_newObj_type (wpAny_bind (wpAny_pure (wpAny_pure ⟨_, rfl, wpAny_pure h⟩))) htake)
    | exact wpAny_bind (wpAny_bind (m := Builtin.Tuple.tupleExact _) (wpAny_newObj_type (wpAny_pure (wpAny_pure ⟨_, rfl, wpAny_pure h⟩)) htake))
    | exact wpAny_bind (wpAny_bind (m := Builtin.Tuple.tupleExact _) (wpAny_newObj_type (wpAny_pure ⟨_, rfl, wpAny_pure h⟩) htake))
end
section
variable {X : Cx}
def rStp (K : PySem.W.Frag) : V → Option Int → Hp → VK → Prop := fun x l H Q => loOk l = true ∧ ((∃ z, x = .str z ∧ z.length ≤ sizeLine ∧ Q (.str ⟨(evry (z.cps.toList.drop (lo0 l))).toArray⟩) H) ∨
  ∃ a xs, x = .ref a ∧ SqT K H a xs ∧ ∀ p, H p = none → Q (.ref p) (upd H p (.tup (evry (xs.drop (lo0 l))))))
theorem pe_stp {e : Expr} {te : TE} {lo : Option Expr} {tl : TO} {k : Nat} {p1 p3 pos : Pos} (he : PE X e te) (hl : PO X lo tl) : PE X (.Subscript e (.Slice lo none (some (.Constant (.int 2) k p1)) p3) pos) (fun σ H Q => te σ H fun x H1 => tl σ H1 fun l H2 => rStp X.K x l H2 Q) := by
  refine ⟨fun pins s σ H Q I h => ?_⟩
  refine Subscript_ (thn (he.run pins s σ H _ I h) fun v s1 ⟨x, H1, I1, r1, q1⟩ => ?_)
  have hst : PO X (some (.Constant (.int 2) k p1)) (tPart (tC (.int 2))) := po_some pe_int
  refine wpAny_Slice (thn (hl.run pins s1 σ H1 _ I1 q1) fun vl s2 ⟨l, H2, I2, pl, q2⟩ => ?_)
  refine thn (po_none.run pins s2 σ H2 (fun o H3 => o = none ∧ H3 = H2) I2 ⟨rfl, rfl⟩) fun vu s3 ⟨u, H3, I3, pu, eu, e3⟩ => ?_
  subst eu e3
  refine thn (hst.run pins s3 σ H3 (fun o H4 => o = some 2 ∧ H4 = H3) I3 ⟨2, rfl, rfl, rfl⟩) fun vs s4 ⟨o, H4, I4, ps, eo, e4⟩ => ?_
  subst eo e4
  have I5 : Inv X pins σ H4 { s4 with heap := s4.heap.push { cls := .type "slice", data := .fields #[vl, vu, vs] } } := I4.kept (t' := s4.toks) fun b ob q => Heap.get?_push_of_some _ q
  have hsl := Heap.IsSliceOf.new s4.heap vl vu vs
  obtain ⟨ok, q2⟩ := q2
  cases pu
  cases ps with
  | int i st =>
  show wpAny (model X.prog X.w) X.A (subscriptTail e (.Slice lo none (some (.Constant (.int 2) k p1)) p3) v (.ref s4.heap.objs.size)) (EP X pins σ Q) X.xe { s4 with heap := s4.heap.push { cls := .type "slice", data := .fields #[vl, .none, .int 2 st] } }
  rcases q2 with ⟨z, rfl, hz, q⟩ | ⟨a, xs, rfl, hx, q⟩
  · obtain ⟨t, rfl⟩ := r1
    refine tail_any (ops := [.str z t, .ref s4.heap.objs.size]) (typeIs_str _ _ _) F.slot_str_getitem.lookup ?_ (by with_unfolding_all rfl)
    obtain ⟨os, hos, hcs, hds⟩ := hsl
    obtain ⟨l', rfl, rfl⟩ := IsPart.raw pl
    refine wpAny_getItem_str_slice (l := l') (u := none) (st := some (2, st)) ⟨os, hos, hcs, hds⟩ rfl ?_
    have zl : z.cps.size = z.length := rfl
    have e : ((Builtin.Str.strSliceIndices (l'.map (·.1)) none 2 z.length).filterMap (z.cps[·]?)) = evry (z.cps.toList.drop (lo0 (l'.map (·.1)))) := by
      rw [ix2 ok, List.filterMap_map, ← drop_st, Array.length_toList, ← pick2, zl]
      rfl
    have hlen : (⟨(evry (z.cps.toList.drop (lo0 (l'.map (·.1))))).toArray⟩ : Str).length ≤ sizeLine := by
      have := evry_le (z.cps.toList.drop (lo0 (l'.map (·.1))))
      rw [List.length_drop] at this
      have e0 : z.cps.toList.length = z.cps.size := Array.length_toList
      rw [len_str_arr]
      omega
    show Made.post (if ((2 : Int) == 1 && (Builtin.Str.strSliceIndices (l'.map (·.1)) none 2 z.length).length == z.length) = true then Made.val (.str z t)
      else Made.str ⟨((Builtin.Str.strSliceIndices (l'.map (·.1)) none 2 z.length).filterMap (z.cps[·]?)).toArray⟩) (EP X pins σ Q) _
    rw [show ((2 : Int) == 1) = false from rfl, Bool.false_and, if_neg Bool.false_ne_true, e]
    exact ⟨hlen, .str _, _, I5.tok _, ⟨_, rfl⟩, q⟩
  · cases r1
    obtain ⟨its, r, ht, hz⟩ := I5.tuple hx
    refine tail_any (ops := [.ref a, .ref s4.heap.objs.size]) ht.typeIs PyProof.Rows.slot_tuple_getitem.lookup ?_ (by with_unfolding_all rfl)
    have hlen := r.length
    refine getItem_tuple_two ht hsl pl ok ?_ (by rw [List.size_toArray, ← hlen]; exact hz)
    refine ⟨.ref _, _, I5.laid (t' := s4.toks) (o := .tup (evry (xs.drop (lo0 l)))) (fun b ob q => Heap.get?_push_of_some _ q) (Nat.le_refl _) ?_, rfl, q _ (I5.hok.fresh (Nat.le_refl _))⟩
    refine ⟨?_, evry (its.drop (lo0 l)), vals_evry (r.drop _), ?_⟩
    · have := evry_le (xs.drop (lo0 l))
      rw [List.length_drop] at this
      omega
    · have := IsTup.new (s4.heap.push { cls := .type "slice", data := .fields #[vl, .none, .int 2 st] }) (evry (its.drop (lo0 l))).toArray
      simpa using this
variable {W : WX} {xa : Nat → Addr} {hx : Option Hx} {η : Option (Nat × Flds)} {fa : LX.Env → MH → Res D} {a : Expr} {pos : Pos}
theorem stpD_rep {M : MH} {β : Bt} {H : Hp} {x : D} {v : V} {l : Option Int} {Q : VK} {σ0 : L2.St} (hp : HeapR X.K H β M) (r1 : Rep X.K H β M.length x v) (h : Post X.K W xa (RD X.K) σ0 H β M.length (stpD M x l) Q) : rStp X.K v l H Q := by
  unfold stpD at h
  obtain ⟨ok, h⟩ := Post.ite h
  refine ⟨ok, ?_⟩
  cases x with
  | str s =>
    obtain ⟨hz, rfl⟩ := r1.strI
    have le := evry_le (s.drop (lo0 l))
    rw [List.length_drop] at le
    refine .inl ⟨_, rfl, by rw [len_str_arr, lim_eq]; exact hz, ?_⟩
    have q := h.okR hp (Rep.mkStr (show (evry (s.drop (lo0 l))).length ≤ lim by omega))
    simpa using q
  | tup xs =>
    obtain ⟨p, vs, rfl, q, rs⟩ := r1.tupI
    have h' : Post X.K W xa (RD X.K) σ0 H β M.length (.ok (.tup (evry (xs.drop (lo0 l)))) M) Q := h
    exact .inr ⟨p, vs, rfl, q, h'.tup hp (Reps.evry (rs.drop _))⟩
  | _ => exact h.elim
theorem d_stp {s : Sys} {c : Cf} {lo : Option Expr} {lx : Option E} {k : Nat} {p1 p3 : Pos} (ha : PE X a (tD X.K W xa hx η fa)) (hl : ∀ e x, lo = some e → lx = some x → PE X e (tD X.K W xa hx η (s.e c x))) (hl0 : lo.isSome = lx.isSome) :
    PE X (.Subscript a (.Slice lo none (some (.Constant (.int 2) k p1)) p3) pos) (tD X.K W xa hx η fun ρ M => (fa ρ M).bind fun x M => (optE s c lx ρ M).bind fun l M => stpD M x l) :=
  PE.imp (pe_stp ha (d_po hl hl0)) fun σ H Q h => tR.seq h fun β ρ M x v H1 sr r1 h1 => tR.seq2 sr h1 fun β2 M2 l l' H2 sr2 mo _ r2 h2 => by
    have e1 : l = l' := r2
    subst e1
    exact stpD_rep sr2.heap (mo r1) h2
end
end LX

set_option Elab.async false
set_option linter.all false
set_option maxRecDepth 100000
set_option maxHeartbeats 2000000
/-! LxCall: chains, calls, methods, kinds, comprehensions. -/
namespace LX
open PySem L2 PyProof.Rows
/-- a def's promise: what the function F hands back -/
def spF (K : PySem.W.Frag) (xa : Nat → Addr) (np : Nat) (F : List D → MH → Res D) : Sp := fun vs H Q E => vs.length = np ∧ ∃ β M ds, HeapR K H β M ∧ Reps K H β M.length ds vs ∧ Post K (fun cls d _ H' => E cls d H') xa (RD K) [] H β M.length (F ds M) Q
def bfN : Bf → Str
  | .len => "len" | .abs => "abs" | .int => "int" | .max2 => "max" | .min2 => "min" | .maxL => "max" | .minL => "min"
  | .sum => "sum" | .sorted => "sorted" | .list => "list" | .tuple => "tuple" | .str => "str"
theorem bf_boot : ∀ b : Bf, bootBuiltins (bfN b) = some (bfV b)
  | .len => by decide +kernel | .abs => by decide +kernel | .int => by decide +kernel | .max2 => by decide +kernel | .min2 => by decide +kernel | .maxL => by decide +kernel | .minL => by decide +kernel
  | .sum => by decide +kernel | .sorted => by decide +kernel | .list => by decide +kernel | .tuple => by decide +kernel | .str => by decide +kernel
theorem bf_name : ∀ b : Bf, bfN b ≠ "__name__" := fun b => by cases b <;> decide +kernel
theorem bf_dbg : ∀ b : Bf, (bfN b == ("__debug__" : Str)) = false := fun b => by cases b <;> decide +kernel
section
variable {X : Cx} {W : WX} {xa : Nat → Addr} {hx : Option Hx} {η : Option (Nat × Flds)} {e a b e3 o : Expr} {es : List Expr} {pos p apos : Pos} {fa fb fc : Env → MH → Res D} {fs : Env → MH → Res (List D)}
theorem d_chain {op op' : CmpOp} (hu : X.A.units + 65 < cLine) (ha : PE X a (tD X.K W xa hx η fa)) (hb : PE X b (tD X.K W xa hx η fb)) (hc : PE X e3 (tD X.K W xa hx η fc)) (hm : lastMarks [op, op'] [b, e3] = false) :
    PE X (.Compare a [op, op'] [b, e3] pos) (tD X.K W xa hx η fun ρ M => (fa ρ M).bind fun x M => (fb ρ M).bind fun y M => (ofO (cmpD M op x y) M).bind fun k M =>
      if k then (fc ρ M).bind fun z M => (ofO (cmpD M op' y z) M).bind fun k M => .ok (.bl k) M else .ok (.bl false) M) :=
  PE.imp (pe_chain (cmp_all hu op) (cmp_all hu op') ha hb hc hm) fun σ H Q h => tR.seq h fun β ρ M x v H1 sr r1 h1 => tR.seq2 sr h1 fun β2 M2 y u H2 sr2 mo _ r2 h2 => by
    obtain ⟨k, e1, h2⟩ := h2.ofO
    refine ⟨β2, M2, x, y, k, sr2.heap, mo r1, r2, e1, k, rfl, ?_⟩
    cases k with
    | true =>
      exact tR.seq2 sr2 h2 fun β3 M3 z w H3 sr3 mo3 _ r3 h3 => by
        obtain ⟨k3, e3, h3⟩ := h3.ofO
        exact ⟨β3, M3, y, z, k3, sr3.heap, mo3 r2, r3, e3, h3.okR sr3.heap (show RD X.K H3 β3 M3.length (D.bl k3) (V.bl k3) from rfl)⟩
    | false => exact h2.okR sr2.heap (show RD X.K H2 β2 M2.length (D.bl false) (V.bl false) from rfl)
theorem t_chain {op op' : CmpOp} (hu : X.A.units + 65 < cLine) (ha : PE X a (tD X.K W xa hx η fa)) (hb : PE X b (tD X.K W xa hx η fb)) (hc : PE X e3 (tD X.K W xa hx η fc)) (hm : lastMarks [op, op'] [b, e3] = false) :
    PT X (.Compare a [op, op'] [b, e3] pos) (tT X.K W xa hx η fun ρ M => (fa ρ M).bind fun x M => (fb ρ M).bind fun y M => (ofO (cmpD M op x y) M).bind fun k M =>
      if k then (fc ρ M).bind fun z M => (ofO (cmpD M op' y z) M).bind fun k M => .ok (.bl k) M else .ok (.bl false) M) :=
  PT.imp (pt_chain (cmp_all hu op) (cmp_all hu op') ha hb hc hm) fun σ H Q h => tR.seq h fun β ρ M x v H1 sr r1 h1 => tR.seq2 sr h1 fun β2 M2 y u H2 sr2 mo _ r2 h2 => by
    obtain ⟨k, e1, h2⟩ := h2.ofO
    refine ⟨β2, M2, x, y, k, sr2.heap, mo r1, r2, e1, k, rfl, ?_⟩
    cases k with
    | true =>
      exact tR.seq2 sr2 h2 fun β3 M3 z w H3 sr3 mo3 _ r3 h3 => by
        obtain ⟨k3, e3, h3⟩ := h3.ofO
        exact ⟨β3, M3, y, z, k3, sr3.heap, mo3 r2, r3, e3, h3.okR sr3.heap (show RD X.K H3 β3 M3.length (D.bl k3) (V.bl k3) from rfl)⟩
    | false => exact h2.okR sr2.heap (show RD X.K H2 β2 M2.length (D.bl false) (V.bl false) from rfl)
/-! ### built-ins -/
theorem star1 {e : Expr} {es : List Expr} {env : PySem.Env} (h : ∀ x q, e ≠ .Starred x q) : starEach (e :: es) env = (false, eval e env) :: starEach es env := by
  cases e with
  | Starred x q => exact absurd rfl (h x q)
  | _ => rfl
def noStar : Expr → Bool
  | .Starred _ _ => false
  | _ => true
theorem noStar_ne {e : Expr} (h : noStar e = true) : ∀ x q, e ≠ .Starred x q := fun x q z => by rw [z] at h; cases h
theorem star_any {env : PySem.Env} {pos : Pos} : ∀ {es : List Expr}, es.all noStar = true → (backTo pos (starEach es env)).any (·.1) = false
  | [], _ => rfl
  | e :: es, h => by
    rw [List.all_cons, Bool.and_eq_true] at h
    rw [star1 (noStar_ne h.1)]
    show (false || (backTo pos (starEach es env)).any (·.1)) = false
    rw [star_any h.2]
    rfl
theorem d_fn {m : Bool} {b : Bf} (hc : X.calm = true) (hg : Gl X (bfN b)) (hm : X.mg (bfN b) = none) (ha : PA X (e :: es) (tDs X.K W xa hx η fs)) (hst : (e :: es).all noStar = true) :
    PE X (.Call (.Name (bfN b) p) (e :: es) [] pos) (tD X.K W xa hx η fun ρ M => (fs ρ M).bind fun ds M => fnD m M b ds) := by
  rw [List.all_cons, Bool.and_eq_true] at hst
  have k : PE X (.Call (.Name (bfN b) p) (e :: es) [] pos) (tCB (fun vs H Q => ∃ β M ds, HeapR X.K H β M ∧ Reps X.K H β M.length ds vs ∧ Post X.K WT xa (RD X.K) [] H β M.length (fnD m M b ds) Q) (tDs X.K W xa hx η fs)) := by
    have r := fn_all (W := WT) (xa := xa) (σ0 := []) hc m b
    have hv := bf_boot b
    cases hb : bfV b with
    | builtin id =>
      rw [hb] at r hv
      exact pe_callB r hg hm hv ha (bf_name b) (bf_dbg b) (star1 (noStar_ne hst.1)) (star_any hst.2)
    | type T =>
      rw [hb] at r hv
      exact pe_callTy r hg hm hv ha (bf_name b) (bf_dbg b) (star1 (noStar_ne hst.1)) (star_any hst.2)
    | _ => cases b <;> cases hb
  exact PE.imp k fun σ H Q h => tR.seq h fun β ρ M ds vs H1 sr r1 h1 => ⟨β, M, ds, sr.heap, r1, h1.toT⟩
/-! ### calls of the text's own defs -/
theorem d_call {F : List D → MH → Res D} {k : Nat} {f : Addr} {fd : FuncData} {ps : List Str} {np : Nat} {x : Str} (hF : FnOk X.prog X.w X.K X.mg X.base (L2.CX X.prog X.w) k f fd ps (spF X.K xa np F)) (hr : Room k X.A) (hg : Gl X x) (hm : X.mg x = some (.ref f)) (hk : PySem.W.keepIn X.K (.ref f) = true) (hb : Binds X.K fd ps []) (tk : Takes X W)
    (hn : ∀ ds M, F ds M ≠ .stuck → ds.length = np) (ha : PA X (e :: es) (tDs X.K W xa hx η fs)) (hdb : (x == ("__debug__" : Str)) = false) (hst : (e :: es).all noStar = true) :
    PE X (.Call (.Name x p) (e :: es) [] pos) (tD X.K W xa hx η fun ρ M => (fs ρ M).bind fun ds M => F ds M) := by
  rw [List.all_cons, Bool.and_eq_true] at hst
  refine PE.imp (pe_callS hF hr hg hm hk hb (fun σ => passAt tk σ) ha hdb (star1 (noStar_ne hst.1)) (star_any hst.2)) fun σ H Q h => tR.seq h fun β ρ M ds vs H1 sr r1 h1 => ?_
  refine ⟨?_, β, M, ds, sr.heap, r1, ?_⟩
  · rw [r1.length]
    exact hn ds M fun z => by rw [z] at h1; exact h1
  · cases q : F ds M with
    | ok d M' => rw [q] at h1; exact h1
    | exn c fs M' => rw [q] at h1; exact h1
    | stuck => rw [q] at h1; exact h1.elim
theorem noExn_ne {α : Type} {r : Res α} {c : Nat} {fs : Flds} {M : MH} (h : noExn r = .exn c fs M) : False := by cases r <;> cases h
theorem fnOk_noExn {P : Program} {w : World} {K : PySem.W.Frag} {mg : Str → Option Value} {base : Heap} {CX : CXT} {k : Nat} {f : Addr} {fd : FuncData} {ps : List Str} {xa : Nat → Addr} {np : Nat} {F : List D → MH → Res D} (h : FnOk P w K mg base CX k f fd ps (spF K xa np F)) : FnOk P w K mg base CX k f fd ps (spF K xa np fun ds M => noExn (F ds M)) := by
  have key : ∀ {vs : List V} {H : Hp} {Q : VK} {E : XK}, spF K xa np (fun ds M => noExn (F ds M)) vs H Q E → spF K xa np F vs H Q E := fun {vs H Q E} ⟨hl, β, M, ds, hp, r, q⟩ => by
    refine ⟨hl, β, M, ds, hp, r, ?_⟩
    dsimp only at q
    cases e : F ds M with
    | ok d M' => rw [e] at q; exact q
    | exn c fs M' => rw [e] at q; exact q.elim
    | stuck => rw [e] at q; exact q.elim
  exact ⟨fun vs H Q E q => h.len vs H Q E (key q), fun A outer s H args us vs Q E hr e0 hb hv q => h.run A outer s H args us vs Q E hr e0 hb hv (key q)⟩
theorem d_call0 {F : List D → MH → Res D} {k : Nat} {f : Addr} {fd : FuncData} {ps : List Str} {np : Nat} {x : Str} (hF : FnOk X.prog X.w X.K X.mg X.base (L2.CX X.prog X.w) k f fd ps (spF X.K xa np F)) (hr : Room k X.A) (hg : Gl X x) (hm : X.mg x = some (.ref f)) (hk : PySem.W.keepIn X.K (.ref f) = true) (hb : Binds X.K fd ps []) (tk : Takes X (fun _ _ _ _ => False))
    (hn : ∀ ds M, F ds M ≠ .stuck → ds.length = np) (hdb : (x == ("__debug__" : Str)) = false) (hno : ∀ ds M c fs M', F ds M ≠ .exn c fs M') :
    PE X (.Call (.Name x p) [] [] pos) (tD X.K W xa hx η fun ρ M => F [] M) := by
  refine PE.imp (pe_call0 (E := fun _ _ _ => False) hF hr hg hm hk hb .nil (passes_call tk fun _ _ _ _ z => z) hdb) fun σ H Q ⟨β, ρ, M, sr, h⟩ => ?_
  refine ⟨?_, β, M, [], sr.heap, Reps.nil, ?_⟩
  · exact hn [] M fun z => by dsimp only at h; rw [z] at h; exact h
  · dsimp only at h
    cases q : F [] M with
    | ok d M' => rw [q] at h; exact h
    | exn c fs M' => exact absurd q (hno _ _ _ _ _)
    | stuck => rw [q] at h; exact h.elim
/-! ### methods -/
def mtN : Mt → Str
  | .append => "append" | .pop0 => "pop" | .pop1 => "pop" | .extend => "extend" | .join => "join"
theorem meth_list {M : MH} {β : Bt} {H : Hp} {t : Mt} {x : D} {v : V} (hp : HeapR X.K H β M) (r : Rep X.K H β M.length x v) (ht : t ≠ .join) (e : recvOk M t x = true) : tyV X.K "list" v H := by
  cases x with
  | ref n =>
    unfold Rep at r
    obtain ⟨hn, rfl⟩ := r
    obtain ⟨vs, q⟩ := hp.lt_of hn
    exact .inl ⟨rfl, vs, SqL.of q⟩
  | _ => cases t <;> first | exact absurd rfl ht | (cases e; done)
theorem methD_rep {t : Mt} {M : MH} {β : Bt} {H : Hp} {x : D} {v : V} {ds : List D} {vs : List V} {Q : VK} {σ0 : L2.St} (hp : HeapR X.K H β M) (r : Rep X.K H β M.length x v) (rs : Reps X.K H β M.length ds vs) (h : Post X.K W xa (RD X.K) σ0 H β M.length (methD M t x ds) Q) :
    match t with
    | .append => rAppend v vs H Q
    | .pop0 => rPop v vs H Q
    | .pop1 => rPopAt v vs H Q
    | .extend => rExtend v vs H Q
    | .join => ∃ a p, ∃ ys : List Str, v = .str a ∧ vs = [.ref p] ∧ (SqL X.K H p (ys.map V.str) ∨ SqT X.K H p (ys.map V.str)) ∧ (ys.map (·.length)).sum + ys.length * a.length ≤ 16777216 ∧ Q (.str (Txt.join a ys)) H := by
  have one : ∀ {d : D}, Reps X.K H β M.length [d] vs → ∃ v, vs = [v] ∧ Rep X.K H β M.length d v := fun {d} rs => by
    unfold Reps at rs
    obtain ⟨v, w, rfl, r1, r2⟩ := rs
    unfold Reps at r2
    subst r2
    exact ⟨v, rfl, r1⟩
  unfold methD at h
  split at h
  · obtain ⟨xs, e1, h⟩ := h.ofO
    obtain ⟨hz, h⟩ := Post.ite h
    obtain ⟨u, rfl, r1⟩ := one rs
    obtain ⟨hn, ws, q, r2⟩ := hp.lst e1
    unfold Rep at r
    refine ⟨_, ws, u, r.2, rfl, q, by rw [r2.length, lim_eq]; exact hz, ?_⟩
    exact h.wr hp hn (r2.append (.one r1)) rfl
  · obtain ⟨xs, e1, h⟩ := h.ofO
    obtain ⟨d, e2, h⟩ := h.ofO
    obtain ⟨hn, ws, q, r2⟩ := hp.lst e1
    obtain ⟨u, e3, r3⟩ := r2.get e2
    unfold Rep at r
    unfold Reps at rs
    refine ⟨_, ws, u, r.2, rs, q, by rw [r2.length]; exact e3, ?_⟩
    exact h.wr hp hn r2.dropLast r3
  · rename_i n i
    obtain ⟨xs, e1, h⟩ := h.ofO
    obtain ⟨k, e2, h⟩ := h.ofO
    obtain ⟨d, e4, h⟩ := h.ofO
    obtain ⟨hn, ws, q, r2⟩ := hp.lst e1
    obtain ⟨u, e3, r3⟩ := r2.get e4
    obtain ⟨w, rfl, r4⟩ := one rs
    obtain rfl := r4.intI
    unfold Rep at r
    have e5 : fits i = true ∧ ixN xs.length i = some k := by
      split at e2
      · exact ⟨by assumption, e2⟩
      · cases e2
    obtain ⟨hf, e2⟩ := e5
    unfold fits at hf
    rw [Bool.and_eq_true, decide_eq_true_eq, decide_eq_true_eq] at hf
    obtain ⟨i1, i2, i3, i4⟩ := ixN_seq e2
    refine ⟨_, ws, _, k, u, r.2, rfl, q, by omega, by omega, by rw [r2.length]; exact i1, e3, ?_⟩
    exact h.wr hp hn (r2.eraseIdx k) r3
  · obtain ⟨xs, e1, h⟩ := h.ofO
    obtain ⟨ys, e2, h⟩ := h.ofO
    obtain ⟨hz, h⟩ := Post.ite h
    obtain ⟨u, rfl, r1⟩ := one rs
    obtain ⟨hn, ws, q, r2⟩ := hp.lst e1
    obtain ⟨p, us, rfl, q2, r3⟩ := r1.tlO hp e2
    unfold Rep at r
    refine ⟨_, p, ws, us, r.2, rfl, q, q2, by rw [r2.length, r3.length, lim_eq]; exact hz, ?_⟩
    exact h.wr hp hn (r2.append r3) rfl
  · obtain ⟨l, e1, h⟩ := h.ofO
    obtain ⟨hz, h⟩ := Post.ite h
    obtain ⟨u, rfl, r1⟩ := one rs
    obtain ⟨xs, e3, e4⟩ := Option.bind_eq_some_iff.mp e1
    obtain ⟨p, us, rfl, q2, r3⟩ := r1.seqO hp e3
    have e5 := r3.strsR e4
    obtain ⟨_, rfl⟩ := r.strI
    subst e5
    refine ⟨_, p, _, rfl, rfl, q2, ?_, ?_⟩
    · rw [List.length_map, List.map_map, len_str_arr]
      have e6 : ((fun s : Str => s.length) ∘ fun s : List Nat => (⟨s.toArray⟩ : Str)) = List.length := funext fun s => len_str_arr s
      rw [e6]
      exact hz
    · rw [joinS_eq]
      exact h.okR hp (Rep.mkStr (Nat.le_trans (joinS_len _ _) hz))
  · exact h.elim
end
end LX

set_option Elab.async false
set_option linter.all false
set_option maxRecDepth 100000
set_option maxHeartbeats 2000000
/-! LxIter: methods, kinds, what is walked, comprehensions. -/
namespace LX
open PySem L2 PyProof.Rows
/-! ### side conditions -/
def okBase : Expr → Bool
  | .Call (.Name _ _) [] [] _ => false
  | _ => true
theorem base_of {o : Expr} {n : Str} {env : PySem.Env} (h : okBase o = true) : attributeBase o n env (eval o env) = eval o env := by
  generalize eval o env = w
  cases o with
  | Call f as ks p =>
    cases f with
    | Name x q =>
      cases as with
      | nil =>
        cases ks with
        | nil => cases h
        | cons _ _ => rfl
      | cons _ _ => rfl
    | _ => rfl
  | _ => rfl
theorem few_of {env : PySem.Env} {pos : Pos} {es : List Expr} (h : es.all noStar = true) (hl : es.length < 29) :
    ((backTo pos (starEach es env)).all (fun x => !x.1) && (backToKw pos (keywordEach [] env)).all (fun x => x.1.isSome) && decide (es.length + ([] : List Keyword).length + (if ([] : List Keyword).isEmpty then 0 else 1) < 30)) = true := by
  have h1 : (backTo pos (starEach es env)).all (fun x => !x.1) = true := by
    clear hl
    induction es with
    | nil => rfl
    | cons e es ih =>
      rw [List.all_cons, Bool.and_eq_true] at h
      rw [star1 (noStar_ne h.1)]
      show (!false && (backTo pos (starEach es env)).all (fun x => !x.1)) = true
      rw [ih h.2]
      rfl
  rw [h1]
  show (true && true && decide (es.length + 0 + 0 < 30)) = true
  rw [decide_eq_true (by omega)]
  rfl
section
variable {X : Cx} {W : WX} {xa : Nat → Addr} {hx : Option Hx} {η : Option (Nat × Flds)} {e a b e3 o : Expr} {es : List Expr} {pos p apos cpos : Pos} {fa fb fc : Env → MH → Res D} {fs : Env → MH → Res (List D)}
/-! ### methods -/
theorem meth_str {M : MH} {β : Bt} {H : Hp} {x : D} {v : V} (r : Rep X.K H β M.length x v) (e : recvOk M .join x = true) : tyV X.K "str" v H := by
  cases x with
  | str s => rw [r.strI.2]; exact rfl
  | _ => cases e
theorem d_meth0 (ho : PE X o (tD X.K W xa hx η fa)) (hb : okBase o = true) (hl : (apos.endLine == cpos.line) = true) :
    PE X (.Call (.Attribute o (mtN .pop0) apos) [] [] cpos) (tD X.K W xa hx η fun ρ M => (fa ρ M).bind fun x M => if recvOk M .pop0 x then (Res.ok [] M).bind fun ds M => methD M .pop0 x ds else .stuck) :=
  PE.imp (pe_bm0 PySem.F.plainAttrs_list PySem.F.slot_list_pop PySem.F.type_list_pop mt_pop ho (base_of hb) hl) fun σ H Q h => tR.seq h fun β ρ M x v H1 sr r1 h1 => by
    obtain ⟨hr, h1⟩ := Post.ite h1
    exact ⟨meth_list sr.heap r1 (by decide) hr, methD_rep (t := .pop0) sr.heap r1 Reps.nil h1⟩
theorem d_meth {t : Mt} (ht : t ≠ .pop0) (ho : PE X o (tD X.K W xa hx η fa)) (ha : PA X (e :: es) (tDs X.K W xa hx η fs)) (hb : okBase o = true) (hl : (apos.endLine == cpos.line) = true) (hst : (e :: es).all noStar = true) (hn : (e :: es).length < 29) :
    PE X (.Call (.Attribute o (mtN t) apos) (e :: es) [] cpos) (tD X.K W xa hx η fun ρ M => (fa ρ M).bind fun x M => if recvOk M t x then (fs ρ M).bind fun ds M => methD M t x ds else .stuck) := by
  have hst2 := hst
  rw [List.all_cons, Bool.and_eq_true] at hst2
  cases t with
  | pop0 => exact absurd rfl ht
  | append =>
    exact PE.imp (pe_bm PySem.F.plainAttrs_list PySem.F.slot_list_append PySem.F.type_list_append mt_append ho ha (base_of hb) (few_of hst hn) hl (star1 (noStar_ne hst2.1)) (star_any hst2.2)) fun σ H Q h => tR.seq h fun β ρ M x v H1 sr r1 h1 => by
      obtain ⟨hrv, h1⟩ := Post.ite h1
      exact ⟨meth_list sr.heap r1 (by decide) hrv, tR.seq2 sr h1 fun β2 M2 ds vs H2 sr2 mo _ r2 h2 => methD_rep (t := .append) sr2.heap (mo r1) r2 h2⟩
  | pop1 =>
    exact PE.imp (pe_bm PySem.F.plainAttrs_list PySem.F.slot_list_pop PySem.F.type_list_pop mt_popAt ho ha (base_of hb) (few_of hst hn) hl (star1 (noStar_ne hst2.1)) (star_any hst2.2)) fun σ H Q h => tR.seq h fun β ρ M x v H1 sr r1 h1 => by
      obtain ⟨hrv, h1⟩ := Post.ite h1
      exact ⟨meth_list sr.heap r1 (by decide) hrv, tR.seq2 sr h1 fun β2 M2 ds vs H2 sr2 mo _ r2 h2 => methD_rep (t := .pop1) sr2.heap (mo r1) r2 h2⟩
  | extend =>
    exact PE.imp (pe_bm PySem.F.plainAttrs_list PySem.F.slot_list_extend PySem.F.type_list_extend mt_extend ho ha (base_of hb) (few_of hst hn) hl (star1 (noStar_ne hst2.1)) (star_any hst2.2)) fun σ H Q h => tR.seq h fun β ρ M x v H1 sr r1 h1 => by
      obtain ⟨hrv, h1⟩ := Post.ite h1
      exact ⟨meth_list sr.heap r1 (by decide) hrv, tR.seq2 sr h1 fun β2 M2 ds vs H2 sr2 mo _ r2 h2 => methD_rep (t := .extend) sr2.heap (mo r1) r2 h2⟩
  | join =>
    exact PE.imp (pe_bm PySem.F.plainAttrs_str PySem.F.slot_str_join PySem.F.type_str_join mt_join ho ha (base_of hb) (few_of hst hn) hl (star1 (noStar_ne hst2.1)) (star_any hst2.2)) fun σ H Q h => tR.seq h fun β ρ M x v H1 sr r1 h1 => by
      obtain ⟨hrv, h1⟩ := Post.ite h1
      exact ⟨meth_str r1 hrv, tR.seq2 sr h1 fun β2 M2 ds vs H2 sr2 mo _ r2 h2 => methD_rep (t := .join) sr2.heap (mo r1) r2 h2⟩
/-! ### kinds -/
def tyN : D → String
  | .non => "NoneType" | .bl _ => "bool" | .int _ => "int" | .str _ => "str" | .tup _ => "tuple" | .tl _ => "list" | .fl _ => "list" | .ref _ => "list" | .edic _ => "dict"
def kdN : Kind → String
  | .int => "int" | .str => "str" | .tuple => "tuple" | .list => "list" | .bool => "bool"
theorem rep_ty {H : Hp} {β : Bt} {M : MH} {d : D} {v : V} (hp : HeapR X.K H β M) (r : Rep X.K H β M.length d v) : TyX X.K H v (.type (tyN d)) := by
  cases d with
  | non => rw [show v = V.non from r]; exact .base .non
  | bl b => rw [show v = V.bl b from r]; exact .base (.bl b)
  | int i => rw [r.intI]; exact .base (.int i)
  | str s => rw [r.strI.2]; exact .base (.str _)
  | tup xs =>
    obtain ⟨a, vs, rfl, q, _⟩ := r.tupI
    rcases q with (q | ⟨o, q⟩) | ⟨o, its, n, q, c, _⟩
    · exact .base (.tup q)
    · exact .fTuple q
    · exact .kTuple q c
  | tl xs => unfold Rep at r; obtain ⟨a, vs, rfl, q, _⟩ := r; exact .base (.lst q)
  | fl xs =>
    unfold Rep at r
    obtain ⟨a, vs, rfl, q, _⟩ := r
    rcases q with ⟨o, q⟩ | ⟨o, its, n, q, c, _⟩
    · exact .base (.frz q)
    · exact .kList q c
  | ref n =>
    unfold Rep at r
    obtain ⟨hn, rfl⟩ := r
    obtain ⟨vs, q⟩ := hp.lt_of hn
    exact .base (.lst q)
  | edic kvs => unfold Rep at r; obtain ⟨a, rfl, q, _⟩ := r; exact .base (.dK q)
theorem kit_tab : ∀ (a : String), a ∈ ["NoneType", "bool", "int", "str", "tuple", "list", "dict"] → ∀ k ∈ [Kind.int, .str, .tuple, .list, .bool], kitB a (kdN k) = some (a == kdN k || (a == "bool" && kdN k == "int")) := by
  decide +kernel
theorem kit_d (d : D) (k : Kind) {K : PySem.W.Frag} : PySem.W.kitOne K (.type (tyN d)) (.type (kdN k)) = some (isKind [k] d) := by
  refine kit_ty ?_
  rw [kit_tab (tyN d) (by cases d <;> simp [tyN]) k (by cases k <;> decide)]
  cases d <;> cases k <;> rfl
theorem kit_ds (d : D) {K : PySem.W.Frag} : ∀ ks : List Kind, PySem.W.kitAny K (.type (tyN d)) (ks.map fun k => Value.type (kdN k)) = some (isKind ks d)
  | [] => rfl
  | k :: ks => by
    have h1 : isKind (k :: ks) d = (isKind [k] d || isKind ks d) := by
      unfold isKind
      rw [List.any_cons, List.any_cons, List.any_nil, Bool.or_false]
    refine kitAny_cons (kit_d d k) (fun e => ?_) (fun e => ?_)
    · rw [h1, e, Bool.false_or]
      exact kit_ds d ks
    · rw [h1, e, Bool.true_or]
theorem d_cls {k : Kind} (hg : Gl X (Str.ofString (kdN k))) (hm : X.mg (Str.ofString (kdN k)) = none) : PE X (.Name (Str.ofString (kdN k)) p) (tC (.ty (kdN k))) :=
  pe_bltn (u := .type (kdN k)) hg hm (by cases k <;> decide +kernel) rfl (by cases k <;> decide +kernel) (by cases k <;> decide +kernel)
theorem d_isi1 {k : Kind} {p2 : Pos} (hg : Gl X "isinstance") (hm : X.mg "isinstance" = none) (hg2 : Gl X (Str.ofString (kdN k))) (hm2 : X.mg (Str.ofString (kdN k)) = none) (ha : PE X e (tD X.K W xa hx η fa)) (hst : noStar e = true) :
    PE X (.Call (.Name "isinstance" p) [e, .Name (Str.ofString (kdN k)) p2] [] pos) (tD X.K W xa hx η fun ρ M => (fa ρ M).bind fun x M => .ok (.bl (isKind [k] x)) M) :=
  PE.imp (pe_callB call_isi hg hm PyProof.Rows.boot_isinstance (pa_cons ha (pa_cons (d_cls hg2 hm2) pa_nil) (star1 (noStar_ne hst))) (by decide +kernel) (by decide +kernel) (star1 (noStar_ne hst)) rfl)
    fun σ H Q h => tR.seq h fun β ρ M x v H1 sr r1 h1 => ⟨v, .ty (kdN k), _, _, isKind [k] x, rfl, .ty _, rep_ty sr.heap r1, kit_d x k, h1.okR sr.heap (show RD X.K H1 β M.length (D.bl _) (V.bl _) from rfl)⟩
/-- the classes of a written tuple -/
theorem d_clss : ∀ {ks : List Kind} {ns : List Expr}, ns.length = ks.length → (∀ (i : Nat) (k : Kind) (n : Expr), ks[i]? = some k → ns[i]? = some n → ∃ p, n = .Name (Str.ofString (kdN k)) p) → (∀ k ∈ ks, Gl X (Str.ofString (kdN k)) ∧ X.mg (Str.ofString (kdN k)) = none) →
    PA X ns (fun σ H Q => Q (ks.map fun k => V.ty (kdN k)) H)
  | [], [], _, _, _ => pa_nil
  | k :: ks, n :: ns, hl, hn, hk => by
    obtain ⟨p, rfl⟩ := hn 0 k n rfl rfl
    obtain ⟨h1, h2⟩ := hk k List.mem_cons_self
    exact pa_cons (d_cls h1 h2) (d_clss (by simpa using hl) (fun i k' n' a b => hn (i + 1) k' n' (by simpa using a) (by simpa using b)) fun k' hk' => hk k' (List.mem_cons_of_mem _ hk')) rfl
  | [], _ :: _, hl, _, _ => by cases hl
  | _ :: _, [], hl, _, _ => by cases hl
theorem d_isiN {ks : List Kind} {ns : List Expr} {k0 : Nat} {tp : Pos} (hg : Gl X "isinstance") (hm : X.mg "isinstance" = none) (hl : ns.length = ks.length) (hn : ∀ (i : Nat) (k : Kind) (n : Expr), ks[i]? = some k → ns[i]? = some n → ∃ p, n = .Name (Str.ofString (kdN k)) p)
    (hk : ∀ k ∈ ks, Gl X (Str.ofString (kdN k)) ∧ X.mg (Str.ofString (kdN k)) = none) (hz : ks.length < 1000) (ha : PE X e (tD X.K W xa hx η fa)) (hst : noStar e = true) :
    PE X (.Call (.Name "isinstance" p) [e, .Tuple ns k0 tp] [] pos) (tD X.K W xa hx η fun ρ M => (fa ρ M).bind fun x M => .ok (.bl (isKind ks x)) M) :=
  PE.imp (pe_callB call_isiT hg hm PyProof.Rows.boot_isinstance (pa_cons ha (pa_cons (pe_tup (d_clss hl hn hk)) pa_nil) (star1 (noStar_ne hst))) (by decide +kernel) (by decide +kernel) (star1 (noStar_ne hst)) rfl)
    fun σ H Q h => tR.seq h fun β ρ M x v H1 sr r1 h1 => by
      refine ⟨by rw [List.length_map, lim_eq]; exact Nat.le_trans (Nat.le_of_lt hz) (by decide), fun q hq => ?_⟩
      have e1 : Ext β M.length H1 β M.length (upd H1 q (.tup (ks.map fun k => V.ty (kdN k)))) := Ext.fresh hq
      have hp := sr.heap.fresh (o := .tup (ks.map fun k => V.ty (kdN k))) hq
      refine ⟨v, q, _, _, ks.map fun k => Value.type (kdN k), isKind ks x, rfl, upd_same, ?_, rep_ty hp (Rep.mono sr.heap e1 r1), kit_ds x ks, h1 β _ _ e1 hp rfl⟩
      clear hl hn hk hz h h1 e1 hp
      induction ks with
      | nil => exact .nil
      | cons k ks ih => exact .cons (.ty _) ih
end
end LX

set_option Elab.async false
set_option linter.all false
set_option maxRecDepth 100000
set_option maxHeartbeats 2000000
/-! LxLoop: what is walked; comprehensions. -/
namespace LX
open PySem L2 RZ PyProof.Rows
/-- the iterator J hands out the items all, as long as the list (if it is one that is written to) stays -/
inductive ItR (K : PySem.W.Frag) (H : Hp) (β : Bt) (N : Nat) (all : List D) : Option Nat → It → Prop
  | tl {a : Addr} (r : Rep K H β N (.tl all) (.ref a)) : ItR K H β N all none (Itl K a)
  | fl {a : Addr} (r : Rep K H β N (.fl all) (.ref a)) : ItR K H β N all none (Itl K a)
  | ref {n : Nat} (h : n < N) : ItR K H β N all (some n) (Itl K (β n))
  | tup {a : Addr} (r : Rep K H β N (.tup all) (.ref a)) : ItR K H β N all none (Itt K a)
  | str {s : List Nat} (e : all = s.map fun c => .str [c]) : ItR K H β N all none (Its ⟨s.toArray⟩)
  | rng {lo : Int} {n : Nat} (e : all = rngL lo n) : ItR K H β N all none (Itr lo n)
  | rnc {lo k : Int} {n : Nat} (e : all = rncL lo k n) : ItR K H β N all none (Itc lo k n)
  | zl {a b : Addr} {as bs : List D} (e : all = zipT as bs) (da db : D) (ha : lfOf da = some as) (hb : lfOf db = some bs) (r1 : Rep K H β N da (.ref a)) (r2 : Rep K H β N db (.ref b)) : ItR K H β N all none (Itz K a b)
  | zt {a b : Addr} {as bs : List D} (e : all = zipT as bs) (r1 : Rep K H β N (.tup as) (.ref a)) (r2 : Rep K H β N (.tup bs) (.ref b)) : ItR K H β N all none (ItzT K a b)
mutual
theorem same_eq : ∀ {a b : D}, D.same a b = true → a = b
  | .non, .non, _ => rfl
  | .bl _, .bl _, h => congrArg D.bl (beq_iff_eq.mp h)
  | .int _, .int _, h => congrArg D.int (beq_iff_eq.mp h)
  | .str _, .str _, h => congrArg D.str (beq_iff_eq.mp h)
  | .tup _, .tup _, h => congrArg D.tup (sames_eq h)
  | .tl _, .tl _, h => congrArg D.tl (sames_eq h)
  | .fl _, .fl _, h => congrArg D.fl (sames_eq h)
  | .ref _, .ref _, h => congrArg D.ref (beq_iff_eq.mp h)
  | .edic _, .edic _, h => congrArg D.edic (of_decide_eq_true h)
theorem sames_eq : ∀ {a b : List D}, D.sames a b = true → a = b
  | [], [], _ => rfl
  | a :: as, b :: bs, h => by
    have h' : (D.same a b && D.sames as bs) = true := h
    rw [Bool.and_eq_true] at h'
    rw [same_eq h'.1, sames_eq h'.2]
end
section
variable {K : PySem.W.Frag} {H H' : Hp} {β β' : Bt} {M M' : MH} {all : List D} {chk : Option Nat} {J : It}
theorem ItR.mono (hp : HeapR K H β M) (e : Ext β M.length H β' M'.length H') (r : ItR K H β M.length all chk J) : ItR K H' β' M'.length all chk J := by
  cases r with
  | tl r => exact .tl (Rep.mono hp e r)
  | fl r => exact .fl (Rep.mono hp e r)
  | @ref n h =>
    rw [← e.agree n h]
    exact .ref (Nat.lt_of_lt_of_le h e.le)
  | tup r => exact .tup (Rep.mono hp e r)
  | str q => exact .str q
  | rng q => exact .rng q
  | rnc q => exact .rnc q
  | zl q da db ha hb r1 r2 => exact .zl q da db ha hb (Rep.mono hp e r1) (Rep.mono hp e r2)
  | zt q r1 r2 => exact .zt q (Rep.mono hp e r1) (Rep.mono hp e r2)
theorem lf_seq {da : D} {as : List D} {a : Addr} {N : Nat} (ha : lfOf da = some as) (r : Rep K H β N da (.ref a)) : ∃ vs, SqL K H a vs ∧ Reps K H β N as vs := by
  cases da with
  | tl xs =>
    cases ha
    unfold Rep at r
    obtain ⟨a, vs, e, q, _, rs⟩ := r
    cases e
    exact ⟨vs, SqL.of q, rs⟩
  | fl xs =>
    cases ha
    unfold Rep at r
    obtain ⟨a, vs, e, q, rs⟩ := r
    cases e
    exact ⟨vs, q.sq, rs⟩
  | _ => cases ha
theorem ItR.lists (hp : HeapR K H β M) (r : ItR K H β M.length all chk J) (hs : stays M all chk = true) : (∃ a vs, J = Itl K a ∧ SqL K H a vs ∧ Reps K H β M.length all vs) ∨ (∃ a vs, J = Itt K a ∧ SqT K H a vs ∧ Reps K H β M.length all vs) ∨ (∃ s : List Nat, all = s.map (fun c => .str [c]) ∧ J = Its ⟨s.toArray⟩) ∨ (∃ lo n, all = rngL lo n ∧ J = Itr lo n) ∨ (∃ lo k n, all = rncL lo k n ∧ J = Itc lo k n) ∨ ∃ a b as bs vs us, all = zipT as bs ∧ Reps K H β M.length as vs ∧ Reps K H β M.length bs us ∧ ((J = Itz K a b ∧ SqL K H a vs ∧ SqL K H b us) ∨ (J = ItzT K a b ∧ SqT K H a vs ∧ SqT K H b us)) := by
  cases r with
  | tl r =>
    unfold Rep at r
    obtain ⟨a, vs, e, q, _, rs⟩ := r
    cases e
    exact .inl ⟨_, vs, rfl, SqL.of q, rs⟩
  | fl r =>
    unfold Rep at r
    obtain ⟨a, vs, e, q, rs⟩ := r
    cases e
    exact .inl ⟨_, vs, rfl, q.sq, rs⟩
  | @ref n h =>
    have hs' : (match lstAt M n with
      | some xs => D.sames xs all
      | none => false) = true := hs
    cases f : lstAt M n with
    | none => rw [f] at hs'; cases hs'
    | some xs =>
      rw [f] at hs'
      have := sames_eq hs'
      subst this
      obtain ⟨_, vs, q, rs⟩ := hp.lst f
      exact .inl ⟨_, vs, rfl, SqL.of q, rs⟩
  | tup r =>
    obtain ⟨a, vs, e, q, rs⟩ := r.tupI
    cases e
    exact .inr (.inl ⟨_, vs, rfl, q, rs⟩)
  | str q => exact .inr (.inr (.inl ⟨_, q, rfl⟩))
  | rng q => exact .inr (.inr (.inr (.inl ⟨_, _, q, rfl⟩)))
  | rnc q => exact .inr (.inr (.inr (.inr (.inl ⟨_, _, _, q, rfl⟩))))
  | @zl a b as bs q da db ha hb r1 r2 =>
    obtain ⟨vs, s1, r1⟩ := lf_seq ha r1
    obtain ⟨us, s2, r2⟩ := lf_seq hb r2
    exact .inr (.inr (.inr (.inr (.inr ⟨a, b, as, bs, vs, us, q, r1, r2, .inl ⟨rfl, s1, s2⟩⟩))))
  | @zt a b as bs q r1 r2 =>
    obtain ⟨a1, vs, e1, s1, r1⟩ := r1.tupI
    obtain ⟨b1, us, e2, s2, r2⟩ := r2.tupI
    cases e1
    cases e2
    exact .inr (.inr (.inr (.inr (.inr ⟨_, _, as, bs, vs, us, q, r1, r2, .inr ⟨rfl, s1, s2⟩⟩))))
theorem ItR.stop (hp : HeapR K H β M) (r : ItR K H β M.length all chk J) (hs : stays M all chk = true) {i : Nat} (hi : all.length ≤ i) : J.stop i H := by
  rcases r.lists hp hs with ⟨a, vs, rfl, q, rs⟩ | ⟨a, vs, rfl, q, rs⟩ | ⟨s, rfl, rfl⟩ | ⟨lo, n, rfl, rfl⟩ | ⟨lo, kk, n, rfl, rfl⟩ | ⟨a, b, as, bs, vs, us, rfl, r1, r2, hj⟩
  · exact ⟨vs, q, by rw [rs.length]; exact hi⟩
  · exact ⟨vs, q, by rw [rs.length]; exact hi⟩
  · show (⟨s.toArray⟩ : Str).cps.size ≤ i
    rw [List.length_map] at hi
    simpa using hi
  · show n ≤ i
    unfold rngL at hi
    rw [List.length_map, List.length_range] at hi
    exact hi
  · show n ≤ i
    unfold rncL at hi
    rw [List.length_map, List.length_range] at hi
    exact hi
  · unfold zipT at hi
    rw [List.length_map, List.length_zip] at hi
    have h1 := r1.length
    have h2 := r2.length
    rcases hj with ⟨rfl, s1, s2⟩ | ⟨rfl, s1, s2⟩
    · exact ⟨vs, us, s1, s2, by omega⟩
    · exact ⟨vs, us, s1, s2, by omega⟩
theorem ItR.go (hp : HeapR K H β M) (r : ItR K H β M.length all chk J) (hs : stays M all chk = true) {i : Nat} {x : D} (hx : all[i]? = some x) : J.go i H ∧ ∀ v H', J.yld i H v H' → Ext β M.length H β M.length H' ∧ HeapR K H' β M ∧ Rep K H' β M.length x v := by
  rcases r.lists hp hs with ⟨a, vs, rfl, q, rs⟩ | ⟨a, vs, rfl, q, rs⟩ | ⟨s, rfl, rfl⟩ | ⟨lo, n, rfl, rfl⟩ | ⟨lo, kk, n, rfl, rfl⟩ | ⟨a, b, as, bs, vs, us, rfl, r1, r2, hj⟩
  · obtain ⟨u, e1, e2⟩ := rs.get hx
    refine ⟨⟨vs, u, q, e1⟩, fun v H' y => ?_⟩
    obtain ⟨rfl, y⟩ := y
    have := Option.some.inj ((y vs q).symm.trans e1)
    subst this
    exact ⟨Ext.refl .., hp, e2⟩
  · obtain ⟨u, e1, e2⟩ := rs.get hx
    refine ⟨⟨vs, u, q, e1⟩, fun v H' y => ?_⟩
    obtain ⟨rfl, y⟩ := y
    have := Option.some.inj ((y vs q).symm.trans e1)
    subst this
    exact ⟨Ext.refl .., hp, e2⟩
  · rw [List.getElem?_map] at hx
    obtain ⟨c, e1, e2⟩ := Option.map_eq_some_iff.mp hx
    have hi := (List.getElem?_eq_some_iff.mp e1).1
    refine ⟨by show i < (⟨s.toArray⟩ : Str).cps.size; simpa using hi, fun v H' y => ?_⟩
    obtain ⟨rfl, c', e3, rfl⟩ := y
    have e4 : s[i]? = some c' := by simpa using e3
    have := Option.some.inj (e1.symm.trans e4)
    subst this
    subst e2
    exact ⟨Ext.refl .., hp, Rep.mkStr (s := [c]) (by show 1 ≤ lim; decide)⟩
  · unfold rngL at hx
    rw [List.getElem?_map] at hx
    obtain ⟨k, e1, e2⟩ := Option.map_eq_some_iff.mp hx
    have hi := (List.getElem?_eq_some_iff.mp e1).1
    rw [List.length_range] at hi
    rw [List.getElem?_range hi] at e1
    have := Option.some.inj e1
    subst this
    subst e2
    refine ⟨hi, fun v H' y => ?_⟩
    obtain ⟨rfl, rfl⟩ := y
    exact ⟨Ext.refl .., hp, rfl⟩
  · unfold rncL at hx
    rw [List.getElem?_map] at hx
    obtain ⟨k, e1, e2⟩ := Option.map_eq_some_iff.mp hx
    have hi := (List.getElem?_eq_some_iff.mp e1).1
    rw [List.length_range] at hi
    rw [List.getElem?_range hi] at e1
    have := Option.some.inj e1
    subst this
    subst e2
    refine ⟨hi, fun v H' y => ?_⟩
    obtain ⟨rfl, rfl⟩ := y
    exact ⟨Ext.refl .., hp, rfl⟩
  · unfold zipT at hx
    rw [List.getElem?_map] at hx
    obtain ⟨p, e1, e2⟩ := Option.map_eq_some_iff.mp hx
    obtain ⟨x1, x2⟩ := p
    rw [List.getElem?_zip_eq_some] at e1
    obtain ⟨u1, f1, g1⟩ := r1.get e1.1
    obtain ⟨u2, f2, g2⟩ := r2.get e1.2
    have fin : ∀ (v : V) (H' : Hp) (T : Addr) (y1 y2 : V), v = .ref T → H T = none → H' = upd H T (.tup [y1, y2]) → y1 = u1 → y2 = u2 → Ext β M.length H β M.length H' ∧ HeapR K H' β M ∧ Rep K H' β M.length x v := by
      intro v H' T y1 y2 e3 hn e4 e5 e6
      subst e3 e4 e5 e6 e2
      refine ⟨Ext.fresh hn, hp.fresh hn, ?_⟩
      show Rep _ _ _ _ (D.tup [x1, x2]) _
      unfold Rep
      exact ⟨T, [y1, y2], rfl, .inl (.inl upd_same), Reps.mono hp (Ext.fresh hn) (.cons g1 (.one g2))⟩
    rcases hj with ⟨rfl, s1, s2⟩ | ⟨rfl, s1, s2⟩
    · refine ⟨⟨vs, us, u1, u2, s1, s2, f1, f2⟩, fun v H' ⟨T, y1, y2, e3, hn, e4, k1, k2⟩ => ?_⟩
      exact fin v H' T y1 y2 e3 hn e4 (Option.some.inj ((k1 vs s1).symm.trans f1)) (Option.some.inj ((k2 us s2).symm.trans f2))
    · refine ⟨⟨vs, us, u1, u2, s1, s2, f1, f2⟩, fun v H' ⟨T, y1, y2, e3, hn, e4, k1, k2⟩ => ?_⟩
      exact fin v H' T y1 y2 e3 hn e4 (Option.some.inj ((k1 vs s1).symm.trans f1)) (Option.some.inj ((k2 us s2).symm.trans f2))
end
/-- the items and the iterator -/
def RIt (K : PySem.W.Frag) (H : Hp) (β : Bt) (N : Nat) (p : List D × Option Nat) (J : It) : Prop := ItR K H β N p.1 p.2 J
section
variable {X : Cx} {W : WX} {xa : Nat → Addr} {hx : Option Hx} {η : Option (Nat × Flds)} {tg e a b e3 : Expr} {es : List Expr} {pos p : Pos} {fa fb fc : Env → MH → Res D} {fs : Env → MH → Res (List D)}
def iAny (K : PySem.W.Frag) (te : TE) : TI := fun σ H R => te σ H fun x H1 => (∃ a, x = .ref a ∧ (∃ xs, SqL K H1 a xs) ∧ R (Itl K a) H1) ∨ (∃ a, x = .ref a ∧ (∃ xs, SqT K H1 a xs) ∧ R (Itt K a) H1) ∨ ∃ z, x = .str z ∧ R (Its z) H1
theorem pi_any {l : Expr} {tl : TE} (hl : PE X l tl) : PI X tg l (iAny X.K tl) := by
  refine ⟨fun pins s σ H R I h => ?_⟩
  refine thn (hl.run pins s σ H _ I h) fun v s1 ⟨x, H1, I1, r1, q1⟩ => ?_
  rcases q1 with ⟨a, rfl, ⟨xs, hq⟩, q⟩ | ⟨a, rfl, ⟨xs, hq⟩, q⟩ | ⟨z, rfl, q⟩
  · cases r1
    obtain ⟨its, rv, p, hz⟩ := I1.list hq
    refine wpAny_pyIter_list p.isList ?_
    refine ⟨s1.heap.objs.size, [s1.heap.objs.size], _, _, H1, rfl, I1.kept (t' := s1.toks) fun b o e => Heap.get?_push_of_some _ e, turn_list a _, ⟨_, Heap.get?_push_size _ rfl, rfl, rfl⟩, fun b hb => ?_, q⟩
    have e : b = s1.heap.objs.size := by simpa using hb
    subst e
    exact I1.fpOk (Nat.le_refl _) (I1.hok.fresh (Nat.le_refl _))
  · cases r1
    obtain ⟨its, rv, p, hz⟩ := I1.tuple hq
    refine wpAny_pyIter_tuple (show s1.heap.IsTuple a its.toArray from p) ?_
    refine ⟨s1.heap.objs.size, [s1.heap.objs.size], _, _, H1, rfl, I1.kept (t' := s1.toks) fun b o e => Heap.get?_push_of_some _ e, turn_tuple a _, ⟨_, Heap.get?_push_size _ rfl, rfl, rfl⟩, fun b hb => ?_, q⟩
    have e : b = s1.heap.objs.size := by simpa using hb
    subst e
    exact I1.fpOk (Nat.le_refl _) (I1.hok.fresh (Nat.le_refl _))
  · obtain ⟨t, rfl⟩ := r1
    cases ha : z.cps.all (· < 128)
    · exact wpAny_pyIter_wide ha (pi_one (tk := s1.toks) I1 _ (turn_str _ z t "str_iterator" (.inr rfl)) ⟨_, Heap.get?_push_size _ rfl, rfl, rfl⟩ q)
    · exact wpAny_pyIter_ascii ha (pi_one (tk := s1.toks) I1 _ (turn_str _ z t "str_ascii_iterator" (.inl rfl)) ⟨_, Heap.get?_push_size _ rfl, rfl, rfl⟩ q)
/-- the reading of what a loop walks -/
def tI (K : PySem.W.Frag) (W : WX) (xa : Nat → Addr) (hx : Option Hx) (η : Option (Nat × Flds)) (f : Env → MH → Res (List D × Option Nat)) : TI := fun σ H R => tR RIt K W xa hx η f σ H R
theorem PI.imp {l : Expr} {t t' : TI} (h : PI X tg l t) (i : ∀ σ H R, t' σ H R → t σ H R) : PI X tg l t' := ⟨fun pins s σ H R I q => h.run pins s σ H R I (i σ H R q)⟩
theorem i_val {l : Expr} (h : PE X l (tD X.K W xa hx η fa)) : PI X tg l (tI X.K W xa hx η fun ρ M => (fa ρ M).bind fun d M => ofO (itemsD M d) M) :=
  PI.imp (pi_any h) fun σ H R h => tR.seq h fun β ρ M x v H1 sr r1 h1 => by
    have fin : ∀ {p : List D × Option Nat} {J : It}, itemsD M x = some p → ItR X.K H1 β M.length p.1 p.2 J → R J H1 := fun {p J} e q => by
      rw [e] at h1
      exact h1 β H1 J (Ext.refl ..) sr.heap q
    cases x with
    | tup xs =>
      obtain ⟨a, vs, rfl, q, rs⟩ := r1.tupI
      exact .inr (.inl ⟨a, rfl, ⟨vs, q⟩, fin rfl (.tup r1)⟩)
    | tl xs =>
      have r1' := r1
      unfold Rep at r1'
      obtain ⟨a, vs, rfl, q, _, rs⟩ := r1'
      exact .inl ⟨a, rfl, ⟨vs, SqL.of q⟩, fin rfl (.tl r1)⟩
    | fl xs =>
      have r1' := r1
      unfold Rep at r1'
      obtain ⟨a, vs, rfl, q, rs⟩ := r1'
      exact .inl ⟨a, rfl, ⟨vs, q.sq⟩, fin rfl (.fl r1)⟩
    | str s =>
      obtain ⟨_, rfl⟩ := r1.strI
      exact .inr (.inr ⟨_, rfl, fin rfl (.str rfl)⟩)
    | ref n =>
      unfold Rep at r1
      obtain ⟨hn, rfl⟩ := r1
      cases f : lstAt M n with
      | none =>
        have : itemsD M (.ref n) = none := by
          show (lstAt M n).map _ = none
          rw [f]; rfl
        rw [this] at h1
        exact h1.elim
      | some xs =>
        obtain ⟨_, vs, q, rs⟩ := sr.heap.lst f
        refine .inl ⟨_, rfl, ⟨vs, SqL.of q⟩, fin (p := (xs, some n)) ?_ (.ref hn)⟩
        show (lstAt M n).map _ = _
        rw [f]; rfl
    | _ => exact h1.elim
theorem i_rng1 (hg : Gl X "range") (hm : X.mg "range" = none) (ha : PE X a (tD X.K W xa hx η fa)) (hs : noStar a = true) :
    PI X tg (.Call (.Name "range" p) [a] [] pos) (tI X.K W xa hx η fun ρ M => (fa ρ M).bind fun x M => (ofO (rng1D x) M).bind fun l M => .ok (l, none) M) :=
  PI.imp (pi_range1 hg hm (pa_cons ha pa_nil (star1 (noStar_ne hs))) (star1 (noStar_ne hs))) fun σ H R h => tR.seq h fun β ρ M x v H1 sr r1 h1 => by
    obtain ⟨l, e1, h1⟩ := h1.ofO
    cases x with
    | int j =>
      have e1' : (if fits j then some (rngL 0 j.toNat) else none) = some l := e1
      by_cases hf : fits j = true
      · rw [if_pos hf] at e1'
        have := Option.some.inj e1'
        subst this
        unfold fits at hf
        rw [Bool.and_eq_true, decide_eq_true_eq, decide_eq_true_eq] at hf
        exact ⟨j, by rw [r1.intI], hf.1, hf.2, h1 β H1 _ (Ext.refl ..) sr.heap (.rng rfl)⟩
      · rw [if_neg hf] at e1'
        cases e1'
    | _ => cases e1
theorem i_rng3 {e1 : Expr} {fd : Env → MH → Res D} (hg : Gl X "range") (hm : X.mg "range" = none) (ha : PE X a (tD X.K W xa hx η fa)) (hb : PE X b (tD X.K W xa hx η fb)) (hd : PE X e1 (tD X.K W xa hx η fd)) (hs : noStar a = true) (hs2 : noStar b = true) (hs3 : noStar e1 = true) :
    PI X tg (.Call (.Name "range" p) [a, b, e1] [] pos) (tI X.K W xa hx η fun ρ M => (fa ρ M).bind fun x M => (fb ρ M).bind fun y M => (fd ρ M).bind fun z M => (ofO (rng3D x y z) M).bind fun l M => .ok (l, none) M) :=
  PI.imp (pi_range3 hg hm (pa_cons ha (pa_cons hb (pa_cons hd pa_nil (star1 (noStar_ne hs3))) (star1 (noStar_ne hs2))) (star1 (noStar_ne hs))) (by rw [star1 (noStar_ne hs), star1 (noStar_ne hs2), star1 (noStar_ne hs3)] <;> rfl) (by rw [star1 (noStar_ne hs2), star1 (noStar_ne hs3)] <;> rfl)) fun σ H R h => tR.seq h fun β ρ M x v H1 sr r1 h1 => tR.seq2 sr h1 fun β2 M2 y u H2 sr2 mo _ r2 h2 => tR.seq2 sr2 h2 fun β3 M3 z w H3 sr3 mo3 _ r3 h3 => by
    obtain ⟨l, e1, h3⟩ := h3.ofO
    cases x with
    | int i =>
      cases y with
      | int j =>
        cases z with
        | int k =>
          have e1' : (if decide (k ≠ 0) && (decide (k.natAbs < 1073741824) && (PySem.Builtin.Range.small i j k && decide (0 ≤ PySem.Builtin.Range.rangeSize i j k))) then some (rncL i k (PySem.Builtin.Range.rangeSize i j k).toNat) else none) = some l := e1
          by_cases hf : (decide (k ≠ 0) && (decide (k.natAbs < 1073741824) && (PySem.Builtin.Range.small i j k && decide (0 ≤ PySem.Builtin.Range.rangeSize i j k)))) = true
          · rw [if_pos hf] at e1'
            have := Option.some.inj e1'
            subst this
            rw [Bool.and_eq_true, Bool.and_eq_true, Bool.and_eq_true, decide_eq_true_eq, decide_eq_true_eq, decide_eq_true_eq] at hf
            exact ⟨i, j, k, _, by rw [r1.intI, r2.intI, r3.intI], ⟨hf.1, hf.2.1, hf.2.2.1, (Int.toNat_of_nonneg hf.2.2.2).symm⟩, h3 β3 H3 _ (Ext.refl ..) sr3.heap (.rnc rfl)⟩
          · rw [if_neg hf] at e1'
            cases e1'
        | _ => cases e1
      | _ => cases e1
    | _ => cases e1
theorem d_lrng {m : Bool} (hc : X.calm = true) (hg : Gl X "list") (hm : X.mg "list" = none) (hg2 : Gl X "range") (hm2 : X.mg "range" = none) (ha : PE X a (tD X.K W xa hx η fa)) (hs : noStar a = true) {p2 pos2 : Pos} :
    PE X (.Call (.Name "list" p) [.Call (.Name "range" p2) [a] [] pos2] [] pos) (tD X.K W xa hx η fun ρ M => (fa ρ M).bind fun x M => (ofO (rngS x) M).bind fun l M => LX.newL m l M) :=
  PE.imp (pe_listRg hc hg hm (prg_1 hg2 hm2 ha (star1 (noStar_ne hs)))) fun σ H Q h => tR.seq h fun β ρ M x v H1 sr r1 h1 => by
    obtain ⟨l, e1, h1⟩ := h1.ofO
    cases x with
    | int j =>
      have e1' : (if decide (-(2 ^ 62) ≤ j) && decide (j ≤ 16777216) then some (rngL 0 j.toNat) else none) = some l := e1
      by_cases hf : (decide (-(2 ^ 62) ≤ j) && decide (j ≤ 16777216)) = true
      · rw [if_pos hf] at e1'
        have := Option.some.inj e1'
        subst this
        rw [Bool.and_eq_true, decide_eq_true_eq, decide_eq_true_eq] at hf
        refine ⟨j, r1.intI, ⟨by omega, by omega, hf.1, by omega, by omega⟩, ?_⟩
        have e2 : rngL 0 j.toNat = ((List.range j.toNat).map fun i => (0 : Int) + (i : Nat)).map D.int := by unfold rngL; rw [List.map_map]; rfl
        have e3 : rgV 0 j = ((List.range j.toNat).map fun i => (0 : Int) + (i : Nat)).map V.int := by unfold rgV; rw [List.map_map, Int.sub_zero]; rfl
        rw [e3]
        exact h1.newL sr.heap (by rw [e2]; exact Reps.ofInts _)
      · rw [if_neg hf] at e1'
        cases e1'
    | _ => cases e1
theorem i_rng2 (hg : Gl X "range") (hm : X.mg "range" = none) (ha : PE X a (tD X.K W xa hx η fa)) (hb : PE X b (tD X.K W xa hx η fb)) (hs : noStar a = true) (hs2 : noStar b = true) :
    PI X tg (.Call (.Name "range" p) [a, b] [] pos) (tI X.K W xa hx η fun ρ M => (fa ρ M).bind fun x M => (fb ρ M).bind fun y M => (ofO (rng2D x y) M).bind fun l M => .ok (l, none) M) :=
  PI.imp (pi_range2 hg hm (pa_cons ha (pa_cons hb pa_nil (star1 (noStar_ne hs2))) (star1 (noStar_ne hs))) (by rw [star1 (noStar_ne hs), star1 (noStar_ne hs2)]; rfl) (by rw [star1 (noStar_ne hs2)]; rfl)) fun σ H R h => tR.seq h fun β ρ M x v H1 sr r1 h1 => tR.seq2 sr h1 fun β2 M2 y u H2 sr2 mo _ r2 h2 => by
    obtain ⟨l, e1, h2⟩ := h2.ofO
    cases x with
    | int i =>
      cases y with
      | int j =>
        have e1' : (if fits i && fits j then some (rngL i (j - i).toNat) else none) = some l := e1
        by_cases hf : (fits i && fits j) = true
        · rw [if_pos hf] at e1'
          have := Option.some.inj e1'
          subst this
          unfold fits at hf
          rw [Bool.and_eq_true, Bool.and_eq_true, Bool.and_eq_true, decide_eq_true_eq, decide_eq_true_eq, decide_eq_true_eq, decide_eq_true_eq] at hf
          exact ⟨i, j, by rw [r1.intI, r2.intI], ⟨hf.1.1, hf.1.2, hf.2.1, hf.2.2⟩, h2 β2 H2 _ (Ext.refl ..) sr2.heap (.rng rfl)⟩
        · rw [if_neg hf] at e1'
          cases e1'
      | _ => cases e1
    | _ => cases y <;> cases e1
theorem i_zip {elts : List Expr} {kk : Nat} {tpos : Pos} (hg : Gl X "zip") (hm : X.mg "zip" = none) (ha : PE X a (tD X.K W xa hx η fa)) (hb : PE X b (tD X.K W xa hx η fb)) (hs : noStar a = true) (hs2 : noStar b = true) :
    PI X (.Tuple elts kk tpos) (.Call (.Name "zip" p) [a, b] [] pos) (tI X.K W xa hx η fun ρ M => (fa ρ M).bind fun x M => (fb ρ M).bind fun y M => (ofO (zipD x y) M).bind fun l M => .ok (l, none) M) :=
  PI.imp (pi_zipA hg hm (pa_cons ha (pa_cons hb pa_nil (star1 (noStar_ne hs2))) (star1 (noStar_ne hs))) (star1 (noStar_ne hs)) (by rw [star1 (noStar_ne hs2)]; rfl)) fun σ H R h => tR.seq h fun β ρ M x v H1 sr r1 h1 => tR.seq2 sr h1 fun β2 M2 y u H2 sr2 mo _ r2 h2 => by
    obtain ⟨l, e1, h2⟩ := h2.ofO
    have r1 := mo r1
    have gen : (zipD x y = ((lfOf x).bind fun xs => (lfOf y).map fun ys => zipT xs ys)) → ∃ a b xs ys, [v, u] = [V.ref a, V.ref b] ∧ ((SqL X.K H2 a xs ∧ SqL X.K H2 b ys ∧ R (Itz X.K a b) H2) ∨ (SqT X.K H2 a xs ∧ SqT X.K H2 b ys ∧ R (ItzT X.K a b) H2)) := fun e => by
      rw [e] at e1
      obtain ⟨as, e2, e3⟩ := Option.bind_eq_some_iff.mp e1
      obtain ⟨bs, e4, e5⟩ := Option.map_eq_some_iff.mp e3
      have key : ∀ {d : D} {ds : List D} {z : V}, lfOf d = some ds → Rep X.K H2 β2 M2.length d z → ∃ a, z = .ref a := fun {d ds z} q r => by
        cases d with
        | tl xs => unfold Rep at r; obtain ⟨a, _, e, _⟩ := r; exact ⟨a, e⟩
        | fl xs => unfold Rep at r; obtain ⟨a, _, e, _⟩ := r; exact ⟨a, e⟩
        | _ => cases q
      obtain ⟨a, rfl⟩ := key e2 r1
      obtain ⟨b, rfl⟩ := key e4 r2
      obtain ⟨vs, s1, _⟩ := lf_seq e2 r1
      obtain ⟨us, s2, _⟩ := lf_seq e4 r2
      exact ⟨a, b, vs, us, rfl, .inl ⟨s1, s2, h2 β2 H2 _ (Ext.refl ..) sr2.heap (.zl e5.symm x y e2 e4 r1 r2)⟩⟩
    cases x with
    | tup as =>
      cases y with
      | tup bs =>
        cases e1
        obtain ⟨a, vs, rfl, s1, _⟩ := r1.tupI
        obtain ⟨b, us, rfl, s2, _⟩ := r2.tupI
        exact ⟨a, b, vs, us, rfl, .inr ⟨s1, s2, h2 β2 H2 _ (Ext.refl ..) sr2.heap (.zt rfl r1 r2)⟩⟩
      | _ => exact gen rfl
    | _ => exact gen rfl
/-! ### targets -/
def setAllV : List Nat → List V → L2.St → L2.St
  | i :: is, v :: vs, σ => setAllV is vs (σ.set i (some v))
  | _, _, σ => σ
/-- a target's store -/
def gS (K : PySem.W.Frag) : G → TG
  | .one i => fun v σ H Q => Q (σ.set i (some v)) H
  | .tup is => fun v σ H Q => ∃ a xs, v = .ref a ∧ SqT K H a xs ∧ xs.length = is.length ∧ Q (setAllV is xs σ) H
def slots : G → List Nat
  | .one i => [i]
  | .tup is => is
/-- the slot i is not the handled exception's -/
def freeI (hx : Option Hx) (i : Nat) : Prop := ∀ h, hx = some h → h.i ≠ some i
theorem SR.set {K : PySem.W.Frag} {H : Hp} {β : Bt} {M : MH} {ρ : Env} {σ : L2.St} {i : Nat} {x : D} {v : V} (s : SR K hx η H β M ρ σ) (r : Rep K H β M.length x v) (hf : freeI hx i) : SR K hx η H β M (ρ.set i (some x)) (σ.set i (some v)) where
  env := by
    refine ⟨by rw [List.length_set, List.length_set]; exact s.env.len, fun j d e => ?_⟩
    by_cases hij : i = j
    · subst hij
      by_cases hl : i < ρ.length
      · rw [List.getElem?_set_self hl] at e
        have := Option.some.inj (Option.some.inj e)
        subst this
        exact ⟨v, by rw [List.getElem?_set_self (by rw [s.env.len]; exact hl)], r⟩
      · rw [List.getElem?_eq_none (by rw [List.length_set]; omega)] at e
        cases e
    · rw [List.getElem?_set_ne hij] at e ⊢
      exact s.env.val j d e
  heap := s.heap
  hot := by
    have q := s.hot
    cases hx with
    | none => cases η with
      | none => trivial
      | some _ => exact q.elim
    | some h => cases η with
      | none => exact q.elim
      | some p =>
        obtain ⟨q1, q2⟩ := q
        refine ⟨fun j e => ?_, q2⟩
        rw [List.getElem?_set_ne (fun z => hf h rfl (by rw [e, z]))]
        exact q1 j e
theorem SR.setAll {K : PySem.W.Frag} {H : Hp} {β : Bt} {M : MH} : ∀ {is : List Nat} {ds : List D} {vs : List V} {ρ : Env} {σ : L2.St}, SR K hx η H β M ρ σ → Reps K H β M.length ds vs → (∀ i ∈ is, freeI hx i) → SR K hx η H β M (LX.setAll is ds ρ) (setAllV is vs σ)
  | [], _, _, _, _, s, _, _ => by
    unfold LX.setAll setAllV
    exact s
  | i :: is, [], vs, _, _, s, r, _ => by
    have := r.nilI
    subst this
    unfold LX.setAll setAllV
    exact s
  | i :: is, d :: ds, vs, _, _, s, r, hf => by
    obtain ⟨v, w, rfl, r1, r2⟩ := r.consI
    show SR K hx η H β M (LX.setAll is ds (_ : Env)) (setAllV is w (_ : L2.St))
    exact SR.setAll (s.set r1 (hf i List.mem_cons_self)) r2 fun j hj => hf j (List.mem_cons_of_mem _ hj)
theorem gS_of {K : PySem.W.Frag} {H : Hp} {β : Bt} {M : MH} {ρ ρ' : Env} {σ : L2.St} {g : G} {x : D} {v : V} {Q : L2.St → Hp → Prop} (sr : SR K hx η H β M ρ σ) (r : Rep K H β M.length x v) (e : bindG g x ρ = some ρ') (hf : ∀ i ∈ slots g, freeI hx i) (q : ∀ σ', SR K hx η H β M ρ' σ' → Q σ' H) : gS K g v σ H Q := by
  cases g with
  | one i =>
    have := Option.some.inj e
    subst this
    exact q _ (sr.set r (hf i List.mem_cons_self))
  | tup is =>
    cases x with
    | tup ds =>
      have e' : (if is.length = ds.length then some (LX.setAll is ds ρ) else none) = some ρ' := e
      by_cases hz : is.length = ds.length
      · rw [if_pos hz] at e'
        have := Option.some.inj e'
        subst this
        obtain ⟨a, vs, rfl, hq, rs⟩ := r.tupI
        exact ⟨a, vs, rfl, hq, by rw [rs.length, hz], q _ (sr.setAll rs hf)⟩
      · rw [if_neg hz] at e'
        cases e'
    | _ => cases e
theorem PG.imp {t t' : TG} (h : PG X tg t) (i : ∀ v σ H Q, t' v σ H Q → t v σ H Q) : PG X tg t' := ⟨fun pins s σ H v u Q I r q => h.run pins s σ H v u Q I r (i v σ H Q q)⟩
theorem g_one {i : Nat} {x : Str} (hN : X.N.Nodup) (hi : X.N[i]? = some x) (hl : Loc X.env.scope x) (hf : X.fn x = true ∨ X.env.scope.names.lookup x = some .local) : PG X (.Name x p) (gS X.K (.one i)) := pg_name hN hi hl hf
theorem g_names : ∀ {is : List Nat} {ts : List Expr}, is.length = ts.length → (∀ (k i : Nat) (t : Expr), is[k]? = some i → ts[k]? = some t → ∃ x p, t = Expr.Name x p ∧ X.N[i]? = some x ∧ Loc X.env.scope x ∧ (X.fn x = true ∨ X.env.scope.names.lookup x = some .local)) → X.N.Nodup →
    PGs X ts fun vs σ H Q => vs.length = is.length ∧ Q (setAllV is vs σ) H
  | [], [], _, _, _ => ⟨fun pins s σ H vs us Q I r h => by
      obtain ⟨hl, q⟩ := h
      have : vs = [] := List.eq_nil_of_length_eq_zero hl
      subst this
      exact pgs_nil.run pins s σ H _ us Q I r ⟨rfl, q⟩⟩
  | i :: is, t :: ts, hl, hn, nd => ⟨fun pins s σ H vs us Q I r h => by
      obtain ⟨x, p, rfl, h1, h2, h3⟩ := hn 0 i t rfl rfl
      obtain ⟨hl2, q⟩ := h
      cases vs with
      | nil => cases hl2
      | cons v w =>
        exact (pgs_cons (pg_name nd h1 h2 h3) (g_names (is := is) (ts := ts) (by simpa using hl) (fun k i' t' a b => hn (k + 1) i' t' (by simpa using a) (by simpa using b)) nd) rfl).run pins s σ H _ us Q I r ⟨v, w, rfl, by simpa using hl2, q⟩⟩
  | [], _ :: _, hl, _, _ => by cases hl
  | _ :: _, [], hl, _, _ => by cases hl
theorem g_tup {is : List Nat} {ts : List Expr} {k : Nat} (hc : X.calm = true) (hl : is.length = ts.length) (hn : ∀ (k i : Nat) (t : Expr), is[k]? = some i → ts[k]? = some t → ∃ x p, t = Expr.Name x p ∧ X.N[i]? = some x ∧ Loc X.env.scope x ∧ (X.fn x = true ∨ X.env.scope.names.lookup x = some .local)) (nd : X.N.Nodup)
    (h1 : (assignEach ts X.env).length = is.length) (h2 : (assignEach ts X.env).findIdx? (·.1) = none) : PG X (.Tuple ts k p) (gS X.K (.tup is)) :=
  PG.imp (pg_tup hc (g_names hl hn nd) h1 h2) fun v σ H Q ⟨a, xs, e, hq, hl, q⟩ => ⟨a, xs, e, hq, hl, hl, q⟩
/-! ### comprehensions -/
theorem wipe_get (σ : L2.St) (j : Nat) : ∀ vs : List Nat, (wipe σ vs)[j]? = if j ∈ vs then (σ[j]?).map (fun _ => none) else σ[j]?
  | [] => by simp [wipe]
  | v :: vs => by
    unfold wipe
    by_cases h : v = j
    · subst h
      rw [if_pos List.mem_cons_self]
      by_cases hl : v < σ.length
      · rw [List.getElem?_set_self (by rw [wipe_length]; exact hl), List.getElem?_eq_getElem hl]
        rfl
      · rw [List.getElem?_eq_none (by rw [List.length_set, wipe_length]; omega), List.getElem?_eq_none (by omega)]
        rfl
    · rw [List.getElem?_set_ne h, wipe_get σ j vs]
      have : (j ∈ v :: vs) = (j ∈ vs) := by
        rw [List.mem_cons]
        simp [Ne.symm h]
      simp only [this]
theorem wipe_set (σ : L2.St) (i : Nat) (x : Option V) {vs : List Nat} (h : i ∈ vs) : wipe (σ.set i x) vs = wipe σ vs := by
  apply List.ext_getElem?
  intro j
  rw [wipe_get, wipe_get]
  by_cases hj : j ∈ vs
  · rw [if_pos hj, if_pos hj]
    by_cases e : i = j
    · subst e
      by_cases hl : i < σ.length
      · rw [List.getElem?_set_self hl, List.getElem?_eq_getElem hl]
        rfl
      · rw [List.getElem?_eq_none (by rw [List.length_set]; omega), List.getElem?_eq_none (by omega)]
    · rw [List.getElem?_set_ne e]
  · rw [if_neg hj, if_neg hj, List.getElem?_set_ne (fun e => hj (by rw [← e]; exact h))]
theorem wipe_wipe (σ : L2.St) (vs : List Nat) : wipe (wipe σ vs) vs = wipe σ vs := by
  apply List.ext_getElem?
  intro j
  rw [wipe_get, wipe_get]
  by_cases hj : j ∈ vs
  · rw [if_pos hj, if_pos hj]
    cases σ[j]? <;> rfl
  · rw [if_neg hj, if_neg hj]
theorem wipe_setAll {vs : List Nat} : ∀ {is : List Nat} {xs : List V} {σ : L2.St}, (∀ i ∈ is, i ∈ vs) → wipe (setAllV is xs σ) vs = wipe σ vs
  | [], _, _, _ => by unfold setAllV; rfl
  | i :: is, [], _, _ => by unfold setAllV; rfl
  | i :: is, x :: xs, σ, h => by
    unfold setAllV
    rw [wipe_setAll (fun j hj => h j (List.mem_cons_of_mem _ hj)), wipe_set _ _ _ (h i List.mem_cons_self)]
theorem SR.wipe {K : PySem.W.Frag} {H : Hp} {β : Bt} {M : MH} {ρ : Env} {σ : L2.St} (s : SR K none none H β M ρ σ) : ∀ vs : List Nat, SR K none none H β M (wipeE ρ vs) (L2.wipe σ vs)
  | [] => s
  | v :: vs => by
    have q := SR.wipe s vs
    refine ⟨⟨by show (List.set _ _ _).length = (List.set _ _ _).length; rw [List.length_set, List.length_set]; exact q.env.len, fun i d e => ?_⟩, q.heap, trivial⟩
    have e' : ((wipeE ρ vs).set v none)[i]? = some (some d) := e
    by_cases h : v = i
    · subst h
      by_cases hl : v < (wipeE ρ vs).length
      · rw [List.getElem?_set_self hl] at e'
        cases e'
      · rw [List.getElem?_eq_none (by rw [List.length_set]; omega)] at e'
        cases e'
    · rw [List.getElem?_set_ne h] at e'
      obtain ⟨u, q1, q2⟩ := q.env.val i d e'
      refine ⟨u, ?_, q2⟩
      show ((L2.wipe σ vs).set v none)[i]? = _
      rw [List.getElem?_set_ne h]
      exact q1
/-- a target's store, within a comprehension's block -/
theorem gS_blk {K : PySem.W.Frag} {H : Hp} {β : Bt} {M : MH} {ρ ρ' : Env} {σ : L2.St} {g : G} {x : D} {v : V} {vs : List Nat} {Q : L2.St → Hp → Prop} (sr : SR K none none H β M ρ (L2.wipe σ vs)) (r : Rep K H β M.length x v) (e : bindG g x ρ = some ρ') (hs : ∀ i ∈ slots g, i ∈ vs)
    (q : ∀ σ', SR K none none H β M ρ' σ' → L2.wipe σ' vs = L2.wipe σ vs → Q σ' H) : gS K g v (L2.wipe σ vs) H Q := by
  have nf : ∀ i, freeI none i := fun i h z => by cases z
  cases g with
  | one i =>
    have := Option.some.inj e
    subst this
    exact q _ (sr.set r (nf i)) (by rw [wipe_set _ _ _ (hs i List.mem_cons_self), wipe_wipe])
  | tup is =>
    cases x with
    | tup ds =>
      have e' : (if is.length = ds.length then some (LX.setAll is ds ρ) else none) = some ρ' := e
      by_cases hz : is.length = ds.length
      · rw [if_pos hz] at e'
        have := Option.some.inj e'
        subst this
        obtain ⟨a, ws, rfl, hq, rs⟩ := r.tupI
        exact ⟨a, ws, rfl, hq, by rw [rs.length, hz], q _ (sr.setAll rs fun i _ => nf i) (by rw [wipe_setAll (is := is) hs, wipe_wipe])⟩
      · rw [if_neg hz] at e'
        cases e'
    | _ => cases e
abbrev WF : WX := fun _ _ _ _ => False
theorem PTs.imp {ifs : List Expr} {t t' : TT} (h : PTs X ifs t) (i : ∀ σ H Q, t' σ H Q → t σ H Q) : PTs X ifs t' := ⟨fun pins s σ H Q I q => h.run pins s σ H Q I (i σ H Q q)⟩
/-- a comprehension's tests -/
def tTs (K : PySem.W.Frag) (xa : Nat → Addr) (f : Env → MH → Res Bool) : TT := tR (fun _ => RP) K WF xa none none f
theorem ts_nil {s : Sys} {c : Cf} : PTs X [] (tTs X.K xa (tests s c none)) := PTs.imp pts_nil fun σ H Q ⟨β, ρ, M, sr, h⟩ => h β H true (Ext.refl ..) sr.heap rfl
theorem ts_one {s : Sys} {c : Cf} {t : Expr} {te : E} (h : PT X t (tT X.K WF xa none none (s.e c te))) : PTs X [t] (tTs X.K xa (tests s c (some te))) :=
  PTs.imp (pts_one h) fun σ H Q h => tR.seq h fun β ρ M x v H1 sr r1 h1 => by
    cases q : asBl x with
    | none => rw [q] at h1; exact h1.elim
    | some k =>
      rw [q] at h1
      have := asBl_some q
      subst this
      exact ⟨k, r1, h1 β H1 k (Ext.refl ..) sr.heap rfl⟩
/-! ### a list that is being made -/
def Bt.add (β : Bt) (A : Addr) : Bt := ⟨β.f, A :: β.p⟩
section
variable {K : PySem.W.Frag} {H : Hp} {β : Bt} {N : Nat} {M : MH} {A : Addr}
theorem sqT_upd {a : Addr} {vs ws : List V} {o : HO} (hA : H A = none ∨ ∃ us, H A = some (.lst us)) (q : SqT K H a vs) : SqT K (upd H A o) a vs := by
  have ne : ∀ {u : HO}, H a = some u → (∀ us, u ≠ .lst us) → a ≠ A := fun {u} e no z => by
    rw [z] at e
    rcases hA with h | ⟨us, h⟩
    · rw [h] at e; cases e
    · rw [h] at e; exact no us (Option.some.inj e).symm
  rcases q with (q | ⟨u, q⟩) | q
  · exact .inl (.inl (by rw [upd_ne (ne q fun _ z => by cases z)]; exact q))
  · exact .inl (.inr ⟨u, by rw [upd_ne (ne q fun _ z => by cases z)]; exact q⟩)
  · exact .inr q
theorem sqF_upd {a : Addr} {vs : List V} {o : HO} (hA : H A = none ∨ ∃ us, H A = some (.lst us)) (q : SqF K H a vs) : SqF K (upd H A o) a vs := by
  rcases q with ⟨u, q⟩ | q
  · refine .inl ⟨u, ?_⟩
    have : a ≠ A := fun z => by
      rw [z] at q
      rcases hA with h | ⟨us, h⟩
      · rw [h] at q; cases q
      · rw [h] at q; cases q
    rw [upd_ne this]
    exact q
  · exact .inr q
mutual
theorem Rep.add {o : HO} (hA : H A = none) : ∀ {d : D} {v : V}, Rep K H β N d v → Rep K (upd H A o) (β.add A) N d v
  | .non, _, r => r
  | .bl _, _, r => r
  | .int _, _, r => r
  | .str _, _, r => r
  | .tup xs, v, r => by
    unfold Rep at r ⊢
    obtain ⟨a, vs, rfl, q, rs⟩ := r
    exact ⟨a, vs, rfl, sqT_upd (ws := vs) (.inl hA) q, Reps.add hA rs⟩
  | .tl xs, v, r => by
    unfold Rep at r ⊢
    obtain ⟨a, vs, rfl, q, ⟨h1, h2⟩, rs⟩ := r
    have : a ≠ A := ne_of_none q hA
    exact ⟨a, vs, rfl, by rw [upd_ne this]; exact q, ⟨h1, fun z => by
      rcases List.mem_cons.mp z with z | z
      · exact this z
      · exact h2 z⟩, Reps.add hA rs⟩
  | .fl xs, v, r => by
    unfold Rep at r ⊢
    obtain ⟨a, vs, rfl, q, rs⟩ := r
    exact ⟨a, vs, rfl, sqF_upd (.inl hA) q, Reps.add hA rs⟩
  | .ref n, v, r => by
    unfold Rep at r ⊢
    exact r
  | .edic kvs, v, r => by
    unfold Rep at r ⊢
    obtain ⟨a, rfl, q, ⟨h1, h2⟩⟩ := r
    have : a ≠ A := ne_of_none q hA
    exact ⟨a, rfl, by rw [upd_ne this]; exact q, ⟨h1, fun z => by
      rcases List.mem_cons.mp z with z | z
      · exact this z
      · exact h2 z⟩⟩
theorem Reps.add {o : HO} (hA : H A = none) : ∀ {ds : List D} {vs : List V}, Reps K H β N ds vs → Reps K (upd H A o) (β.add A) N ds vs
  | [], _, r => by
    have := r.nilI
    subst this
    exact .nil
  | d :: ds, _, r => by
    obtain ⟨v, w, rfl, r1, r2⟩ := r.consI
    exact .cons (Rep.add hA r1) (Reps.add hA r2)
end
mutual
theorem Rep.back {p : List Addr} (hp : ∀ a ∈ p, a ∈ β.p) : ∀ {d : D} {v : V}, Rep K H β N d v → Rep K H ⟨β.f, p⟩ N d v
  | .non, _, r => r
  | .bl _, _, r => r
  | .int _, _, r => r
  | .str _, _, r => r
  | .tup xs, v, r => by
    unfold Rep at r ⊢
    obtain ⟨a, vs, rfl, q, rs⟩ := r
    exact ⟨a, vs, rfl, q, Reps.back hp rs⟩
  | .tl xs, v, r => by
    unfold Rep at r ⊢
    obtain ⟨a, vs, rfl, q, ⟨h1, h2⟩, rs⟩ := r
    exact ⟨a, vs, rfl, q, ⟨h1, fun z => h2 (hp a z)⟩, Reps.back hp rs⟩
  | .fl xs, v, r => by
    unfold Rep at r ⊢
    obtain ⟨a, vs, rfl, q, rs⟩ := r
    exact ⟨a, vs, rfl, q, Reps.back hp rs⟩
  | .ref n, v, r => by
    unfold Rep at r ⊢
    exact r
  | .edic kvs, v, r => by
    unfold Rep at r ⊢
    obtain ⟨a, rfl, q, ⟨h1, h2⟩⟩ := r
    exact ⟨a, rfl, q, ⟨h1, fun z => h2 (hp a z)⟩⟩
theorem Reps.back {p : List Addr} (hp : ∀ a ∈ p, a ∈ β.p) : ∀ {ds : List D} {vs : List V}, Reps K H β N ds vs → Reps K H ⟨β.f, p⟩ N ds vs
  | [], _, r => by
    have := r.nilI
    subst this
    exact .nil
  | d :: ds, _, r => by
    obtain ⟨v, w, rfl, r1, r2⟩ := r.consI
    exact .cons (Rep.back hp r1) (Reps.back hp r2)
end
mutual
theorem Rep.wrA {us ws : List V} (hA : H A = some (.lst us)) (hm : A ∈ β.p) : ∀ {d : D} {v : V}, Rep K H β N d v → Rep K (upd H A (.lst ws)) β N d v
  | .non, _, r => r
  | .bl _, _, r => r
  | .int _, _, r => r
  | .str _, _, r => r
  | .tup xs, v, r => by
    unfold Rep at r ⊢
    obtain ⟨a, vs, rfl, q, rs⟩ := r
    exact ⟨a, vs, rfl, sqT_upd (ws := vs) (.inr ⟨us, hA⟩) q, Reps.wrA hA hm rs⟩
  | .tl xs, v, r => by
    unfold Rep at r ⊢
    obtain ⟨a, vs, rfl, q, ⟨h1, h2⟩, rs⟩ := r
    have : a ≠ A := fun z => h2 (z ▸ hm)
    exact ⟨a, vs, rfl, by rw [upd_ne this]; exact q, ⟨h1, h2⟩, Reps.wrA hA hm rs⟩
  | .fl xs, v, r => by
    unfold Rep at r ⊢
    obtain ⟨a, vs, rfl, q, rs⟩ := r
    exact ⟨a, vs, rfl, sqF_upd (.inr ⟨us, hA⟩) q, Reps.wrA hA hm rs⟩
  | .ref n, v, r => by
    unfold Rep at r ⊢
    exact r
  | .edic kvs, v, r => by
    unfold Rep at r ⊢
    obtain ⟨a, rfl, q, ⟨h1, h2⟩⟩ := r
    have : a ≠ A := fun z => h2 (z ▸ hm)
    exact ⟨a, rfl, by rw [upd_ne this]; exact q, ⟨h1, h2⟩⟩
theorem Reps.wrA {us ws : List V} (hA : H A = some (.lst us)) (hm : A ∈ β.p) : ∀ {ds : List D} {vs : List V}, Reps K H β N ds vs → Reps K (upd H A (.lst ws)) β N ds vs
  | [], _, r => by
    have := r.nilI
    subst this
    exact .nil
  | d :: ds, _, r => by
    obtain ⟨v, w, rfl, r1, r2⟩ := r.consI
    exact .cons (Rep.wrA hA hm r1) (Reps.wrA hA hm r2)
end
theorem HeapR.add {o : HO} (h : HeapR K H β M) (hA : H A = none) : HeapR K (upd H A o) (β.add A) M where
  cell := fun n m e => by
    have q := h.cell n m e
    cases m with
    | lst xs =>
      obtain ⟨vs, q, r⟩ := q
      exact ⟨vs, by rw [upd_ne (show (β.add A) n ≠ A from ne_of_none q hA)]; exact q, Reps.add hA r⟩
  inj := h.inj
  prot := fun a ha => by
    rcases List.mem_cons.mp ha with rfl | ha
    · rw [upd_same]; simp
    · exact upd_some (h.prot a ha)
theorem HeapR.back {p : List Addr} (h : HeapR K H β M) (hp : ∀ a ∈ p, a ∈ β.p) : HeapR K H ⟨β.f, p⟩ M where
  cell := fun n m e => by
    have q := h.cell n m e
    cases m with
    | lst xs =>
      obtain ⟨vs, q, r⟩ := q
      exact ⟨vs, q, Reps.back hp r⟩
  inj := h.inj
  prot := fun a ha => h.prot a (hp a ha)
theorem HeapR.wrA {us ws : List V} (h : HeapR K H β M) (hA : H A = some (.lst us)) (hm : A ∈ β.p) (no : ∀ n, n < M.length → β n ≠ A) : HeapR K (upd H A (.lst ws)) β M where
  cell := fun n m e => by
    have q := h.cell n m e
    have hn := (List.getElem?_eq_some_iff.mp e).1
    cases m with
    | lst xs =>
      obtain ⟨vs, q, r⟩ := q
      exact ⟨vs, by rw [upd_ne (no n hn)]; exact q, Reps.wrA hA hm r⟩
  inj := h.inj
  prot := fun a ha => upd_some (h.prot a ha)
theorem SR.add {o : HO} {ρ : Env} {σ : L2.St} (s : SR K none none H β M ρ σ) (hA : H A = none) : SR K none none (upd H A o) (β.add A) M ρ σ :=
  ⟨⟨s.env.len, fun i d e => let ⟨v, q1, q2⟩ := s.env.val i d e; ⟨v, q1, Rep.add hA q2⟩⟩, s.heap.add hA, trivial⟩
theorem SR.wrA {us ws : List V} {ρ : Env} {σ : L2.St} (s : SR K none none H β M ρ σ) (hA : H A = some (.lst us)) (hm : A ∈ β.p) (no : ∀ n, n < M.length → β n ≠ A) : SR K none none (upd H A (.lst ws)) β M ρ σ :=
  ⟨⟨s.env.len, fun i d e => let ⟨v, q1, q2⟩ := s.env.val i d e; ⟨v, q1, Rep.wrA hA hm q2⟩⟩, s.heap.wrA hA hm no, trivial⟩
theorem ItR.add {o : HO} {all : List D} {chk : Option Nat} {J : It} (r : ItR K H β N all chk J) (hA : H A = none) : ItR K (upd H A o) (β.add A) N all chk J := by
  cases r with
  | tl r => exact .tl (Rep.add hA r)
  | fl r => exact .fl (Rep.add hA r)
  | @ref n h => exact ItR.ref (β := β.add A) h
  | tup r => exact .tup (Rep.add hA r)
  | str q => exact .str q
  | rng q => exact .rng q
  | rnc q => exact .rnc q
  | zl q da db ha hb r1 r2 => exact .zl q da db ha hb (Rep.add hA r1) (Rep.add hA r2)
  | zt q r1 r2 => exact .zt q (Rep.add hA r1) (Rep.add hA r2)
theorem ItR.wrA {us ws : List V} {all : List D} {chk : Option Nat} {J : It} (r : ItR K H β N all chk J) (hA : H A = some (.lst us)) (hm : A ∈ β.p) : ItR K (upd H A (.lst ws)) β N all chk J := by
  cases r with
  | tl r => exact .tl (Rep.wrA hA hm r)
  | fl r => exact .fl (Rep.wrA hA hm r)
  | @ref n h => exact ItR.ref (β := β) h
  | tup r => exact .tup (Rep.wrA hA hm r)
  | str q => exact .str q
  | rng q => exact .rng q
  | rnc q => exact .rnc q
  | zl q da db ha hb r1 r2 => exact .zl q da db ha hb (Rep.wrA hA hm r1) (Rep.wrA hA hm r2)
  | zt q r1 r2 => exact .zt q (Rep.wrA hA hm r1) (Rep.wrA hA hm r2)
theorem Ext.reP {β' : Bt} {N' : Nat} {H' : Hp} (e : Ext β N H β' N' H') (p : List Addr) : Ext ⟨β.f, p⟩ N H ⟨β'.f, p⟩ N' H' := ⟨e.le, e.agree, e.fr, e.new, e.tr, rfl⟩
theorem Ext.wrA {β' : Bt} {N' : Nat} {H' : Hp} {o : HO} (e : Ext β N H β' N' H') (hA : H A = none) : Ext β N H β' N' (upd H' A o) :=
  ⟨e.le, e.agree, fun a u h no => by rw [upd_ne (ne_of_none h hA)]; exact e.fr a u h no, e.new, fun a h => by
    by_cases z : a = A
    · rw [z]; exact hA
    · rw [upd_ne z] at h; exact e.tr a h, e.pp⟩
end
section
variable {K : PySem.W.Frag} {H : Hp} {β : Bt} {N : Nat} {A : Addr} {p : List Addr}
mutual
theorem Rep.adopt (hA : A ∈ β.p) (hp : ∀ a ∈ p, a ∈ β.p) : ∀ {d : D} {v : V}, Rep K H β N d v → Rep K H ⟨(ext1 β N A).f, p⟩ (N + 1) d v
  | .non, _, r => r
  | .bl _, _, r => r
  | .int _, _, r => r
  | .str _, _, r => r
  | .tup xs, v, r => by
    unfold Rep at r ⊢
    obtain ⟨a, vs, rfl, q, rs⟩ := r
    exact ⟨a, vs, rfl, q, Reps.adopt hA hp rs⟩
  | .tl xs, v, r => by
    unfold Rep at r ⊢
    obtain ⟨a, vs, rfl, q, hn, rs⟩ := r
    refine ⟨a, vs, rfl, q, ⟨fun n hl z => ?_, fun z => hn.2 (hp a z)⟩, Reps.adopt hA hp rs⟩
    by_cases hN : n < N
    · exact hn.1 n hN ((ext1_lt A hN).symm.trans z)
    · have : n = N := by omega
      subst this
      have e : A = a := (ext1_at β n A).symm.trans z
      subst e
      exact hn.2 hA
  | .fl xs, v, r => by
    unfold Rep at r ⊢
    obtain ⟨a, vs, rfl, q, rs⟩ := r
    exact ⟨a, vs, rfl, q, Reps.adopt hA hp rs⟩
  | .ref n, v, r => by
    unfold Rep at r ⊢
    obtain ⟨hn, rfl⟩ := r
    exact ⟨Nat.lt_succ_of_lt hn, (congrArg V.ref (ext1_lt A hn)).symm⟩
  | .edic kvs, v, r => by
    unfold Rep at r ⊢
    obtain ⟨a, rfl, q, hn⟩ := r
    refine ⟨a, rfl, q, ⟨fun n hl z => ?_, fun z => hn.2 (hp a z)⟩⟩
    by_cases hN : n < N
    · exact hn.1 n hN ((ext1_lt A hN).symm.trans z)
    · have : n = N := by omega
      subst this
      have e : A = a := (ext1_at β n A).symm.trans z
      subst e
      exact hn.2 hA
theorem Reps.adopt (hA : A ∈ β.p) (hp : ∀ a ∈ p, a ∈ β.p) : ∀ {ds : List D} {vs : List V}, Reps K H β N ds vs → Reps K H ⟨(ext1 β N A).f, p⟩ (N + 1) ds vs
  | [], _, r => r
  | d :: ds, vs, r => by
    unfold Reps at r ⊢
    obtain ⟨v, w, rfl, r1, r2⟩ := r
    exact ⟨v, w, rfl, Rep.adopt hA hp r1, Reps.adopt hA hp r2⟩
end
theorem HeapR.adopt {M : MH} {xs : List D} {vs : List V} (h : HeapR K H β M) (hA : A ∈ β.p) (hp : ∀ a ∈ p, a ∈ β.p) (hq : H A = some (.lst vs)) (no : ∀ n, n < M.length → β n ≠ A) (r : Reps K H β M.length xs vs) : HeapR K H ⟨(ext1 β M.length A).f, p⟩ (M ++ [.lst xs]) where
  prot := fun a ha => h.prot a (hp a ha)
  cell := fun n m e => by
    have hl : (M ++ [MO.lst xs]).length = M.length + 1 := by simp
    rw [hl]
    by_cases hn : n < M.length
    · rw [List.getElem?_append_left hn] at e
      have q := h.cell n m e
      cases m with
      | lst ys =>
        obtain ⟨ws, q, r'⟩ := q
        refine ⟨ws, ?_, Reps.adopt hA hp r'⟩
        have e2 : (⟨(ext1 β M.length A).f, p⟩ : Bt) n = β n := ext1_lt A hn
        rw [e2]
        exact q
    · have hz : n < (M ++ [MO.lst xs]).length := (List.getElem?_eq_some_iff.mp e).1
      have : n = M.length := by omega
      subst this
      rw [List.getElem?_append_right (Nat.le_refl _), Nat.sub_self] at e
      cases e
      refine ⟨vs, ?_, Reps.adopt hA hp r⟩
      have e2 : (⟨(ext1 β M.length A).f, p⟩ : Bt) M.length = A := ext1_at β M.length A
      rw [e2]
      exact hq
  inj := fun a b ha hb e => by
    have hl : (M ++ [MO.lst xs]).length = M.length + 1 := by simp
    rw [hl] at ha hb
    have f1 : ∀ n, n < M.length → (⟨(ext1 β M.length A).f, p⟩ : Bt) n = β n := fun n hn => ext1_lt A hn
    have f2 : (⟨(ext1 β M.length A).f, p⟩ : Bt) M.length = A := ext1_at β M.length A
    by_cases h1 : a < M.length
    · by_cases h2 : b < M.length
      · rw [f1 a h1, f1 b h2] at e
        exact h.inj a b h1 h2 e
      · have : b = M.length := by omega
        subst this
        rw [f1 a h1, f2] at e
        exact absurd e (no a h1)
    · have : a = M.length := by omega
      subst this
      by_cases h2 : b < M.length
      · rw [f1 b h2, f2] at e
        exact absurd e.symm (no b h2)
      · omega
end
theorem lc_read {mb : Bool} {s : Sys} {c : Cf} {own : List Nat} {g : G} {it te : E} {t : Option E} (hsl : ∀ i ∈ slots g, i ∈ own) {σ : L2.St} {H : Hp} {Q : VK}
    (h : tD X.K W xa none none (fun ρ M => (itE s c it ρ M).bind fun p M => (noExn (lcL s c g p.1 p.2 t te (wipeE ρ own) p.1 [] M)).bind fun l M => LX.newL mb l M) σ H Q) :
    tLc (tI X.K W xa none none (itE s c it)) (gS X.K g) (tTs X.K xa (tests s c t)) (tD X.K WF xa none none (s.e c te)) own σ H Q := by
  refine tR.seq h fun β ρ M pp J H1 sr r1 h1 => ?_
  obtain ⟨all, chk⟩ := pp
  have r1 : ItR X.K H1 β M.length all chk J := r1
  intro A hA
  have noA : ∀ n, n < M.length → β n ≠ A := fun n hl z => by
    obtain ⟨ws, q⟩ := sr.heap.lt_of hl
    rw [z, hA] at q
    cases q
  refine ⟨fun i m H2 => m = all.length - i ∧ i ≤ all.length ∧ ∃ (β2 : Bt) (M2 : MH) (acc : List D) (vacc : List V), β2.p = A :: β.p ∧ SR X.K none none H2 β2 M2 (wipeE ρ own) (L2.wipe σ own) ∧ ItR X.K H2 β2 M2.length all chk J ∧ Ext β M.length H1 ⟨β2.f, β.p⟩ M2.length H2 ∧ H2 A = some (.lst vacc) ∧ (∀ n, n < M2.length → β2 n ≠ A) ∧ Reps X.K H2 β2 M2.length acc vacc ∧
    Post X.K W xa (RD X.K) σ H1 β M.length ((noExn (lcL s c g all chk t te (wipeE ρ own) (all.drop i) acc M2)).bind fun l M => LX.newL mb l M) Q, ?_, ?_⟩
  · refine ⟨all.length, rfl, Nat.zero_le _, β.add A, M, [], [], rfl, (sr.add hA).wipe _, r1.add hA, Ext.fresh hA, upd_same, noA, Reps.nil, ?_⟩
    exact h1
  · rintro i m H2 ⟨rfl, hi2, β2, M2, acc, vacc, hp2, sr2, it2, e2, hA2, no2, ra2, h2⟩
    have hst : stays M2 all chk = true := by
      cases q : stays M2 all chk with
      | true => rfl
      | false =>
        exfalso
        cases f : all.drop i with
        | nil =>
          rw [f] at h2
          unfold lcL at h2
          rw [q] at h2
          exact h2
        | cons x xs =>
          rw [f] at h2
          unfold lcL at h2
          rw [q] at h2
          exact h2
    by_cases hlt : i < all.length
    · right
      have hx : all[i]? = some all[i] := List.getElem?_eq_getElem hlt
      obtain ⟨g1, g2⟩ := it2.go sr2.heap hst hx
      refine ⟨g1, fun H' => ∃ m', m' < all.length - i ∧ m' = all.length - (i + 1) ∧ i + 1 ≤ all.length ∧ ∃ (β2 : Bt) (M2 : MH) (acc : List D) (vacc : List V), β2.p = A :: β.p ∧ SR X.K none none H' β2 M2 (wipeE ρ own) (L2.wipe σ own) ∧ ItR X.K H' β2 M2.length all chk J ∧ Ext β M.length H1 ⟨β2.f, β.p⟩ M2.length H' ∧ H' A = some (.lst vacc) ∧ (∀ n, n < M2.length → β2 n ≠ A) ∧ Reps X.K H' β2 M2.length acc vacc ∧
        Post X.K W xa (RD X.K) σ H1 β M.length ((noExn (lcL s c g all chk t te (wipeE ρ own) (all.drop (i + 1)) acc M2)).bind fun l M => LX.newL mb l M) Q, fun H' ⟨m', a1, a2⟩ => ⟨m', a1, a2⟩, fun v H' y => ?_⟩
      obtain ⟨ey, hpy, rv⟩ := g2 v H' y
      have hA2 : H' A = some (.lst vacc) := ey.fr _ _ hA2 no2
      have ra2 := Reps.mono sr2.heap ey ra2
      have it2 := it2.mono sr2.heap ey
      have sr2 := sr2.mono ey hpy
      have e2 := e2.trans (ey.reP β.p)
      rw [List.drop_eq_getElem_cons hlt] at h2
      unfold lcL at h2
      rw [if_pos hst] at h2
      cases bg : bindG g all[i] (wipeE ρ own) with
      | none =>
        rw [bg] at h2
        exact h2.elim
      | some ρ' =>
        rw [bg] at h2
        refine gS_blk sr2 rv bg hsl fun σ' sr3 hw => ⟨hw, ?_⟩
        -- the tests
        have h3 : Post X.K W xa (RD X.K) σ H1 β M.length ((noExn ((tests s c t ρ' M2).bind fun k M => if k then (s.e c te ρ' M).bind fun d M => if acc.length < lim then lcL s c g all chk t te (wipeE ρ own) (all.drop (i + 1)) (acc ++ [d]) M else .stuck
            else lcL s c g all chk t te (wipeE ρ own) (all.drop (i + 1)) acc M)).bind fun l M => LX.newL mb l M) Q := h2
        refine ⟨β2, ρ', M2, sr3, ?_⟩
        cases qt : tests s c t ρ' M2 with
        | stuck => rw [qt] at h3; exact h3.elim
        | exn k fs M3 => rw [qt] at h3; exact h3.elim
        | ok b M3 =>
          rw [qt] at h3
          intro β3 H3 b' e3 hp3 rb
          have rb : b = b' := rb
          subst rb
          have no3 : ∀ n, n < M3.length → β3 n ≠ A := fun n hl z => by
            by_cases hn : n < M2.length
            · exact no2 n hn ((e3.agree n hn).symm.trans z)
            · have w := e3.new n (Nat.le_of_not_lt hn) hl
              rw [z, hA2] at w
              cases w
          have hA3 : H3 A = some (.lst vacc) := e3.fr _ _ hA2 no2
          cases b with
          | false =>
            show ∃ m', _
            refine ⟨_, by omega, rfl, hlt, β3, M3, acc, vacc, e3.pp.trans hp2, sr2.mono e3 hp3, it2.mono sr2.heap e3, e2.trans (e3.reP β.p), hA3, no3, Reps.mono sr2.heap e3 ra2, h3⟩
          | true =>
            refine ⟨β3, ρ', M3, sr3.mono e3 hp3, ?_⟩
            have h4 : Post X.K W xa (RD X.K) σ H1 β M.length ((noExn ((s.e c te ρ' M3).bind fun d M => if acc.length < lim then lcL s c g all chk t te (wipeE ρ own) (all.drop (i + 1)) (acc ++ [d]) M else .stuck)).bind fun l M => LX.newL mb l M) Q := h3
            cases qe : s.e c te ρ' M3 with
            | stuck => rw [qe] at h4; exact h4.elim
            | exn k fs M4 => rw [qe] at h4; exact h4.elim
            | ok d M4 =>
              rw [qe] at h4
              intro β4 H4 u e4 hp4 ru
              have no4 : ∀ n, n < M4.length → β4 n ≠ A := fun n hl z => by
                by_cases hn : n < M3.length
                · exact no3 n hn ((e4.agree n hn).symm.trans z)
                · have w := e4.new n (Nat.le_of_not_lt hn) hl
                  rw [z, hA3] at w
                  cases w
              have hA4 : H4 A = some (.lst vacc) := e4.fr _ _ hA3 no3
              have h5 : Post X.K W xa (RD X.K) σ H1 β M.length ((noExn (if acc.length < lim then lcL s c g all chk t te (wipeE ρ own) (all.drop (i + 1)) (acc ++ [d]) M4 else .stuck)).bind fun l M => LX.newL mb l M) Q := h4
              by_cases hz : acc.length < lim
              · rw [if_pos hz] at h5
                have hm : A ∈ β4.p := by rw [e4.pp, e3.pp, hp2]; exact List.mem_cons_self
                refine ⟨vacc, hA4, by rw [ra2.length, lim_eq]; exact hz, _, by omega, rfl, hlt, β4, M4, acc ++ [d], vacc ++ [u], e4.pp.trans (e3.pp.trans hp2), ((sr2.mono e3 hp3).mono e4 hp4).wrA hA4 hm no4, (((it2.mono sr2.heap e3).mono hp3 e4)).wrA hA4 hm, ((e2.trans (e3.reP β.p)).trans (e4.reP β.p)).wrA hA, upd_same, no4, ?_, h5⟩
                exact Reps.wrA hA4 hm ((Reps.mono hp3 e4 (Reps.mono sr2.heap e3 ra2)).append (.one ru))
              · rw [if_neg hz] at h5
                exact h5.elim
    · left
      refine ⟨it2.stop sr2.heap hst (Nat.le_of_not_lt hlt), ?_⟩
      rw [List.drop_eq_nil_of_le (Nat.le_of_not_lt hlt)] at h2
      unfold lcL at h2
      rw [if_pos hst] at h2
      have h3 : Post X.K W xa (RD X.K) σ H1 β M.length (LX.newL mb acc M2) Q := h2
      have hb : ∀ a ∈ β.p, a ∈ β2.p := fun a ha => by rw [hp2]; exact List.mem_cons_of_mem _ ha
      cases mb with
      | false =>
        refine h3 ⟨β2.f, β.p⟩ H2 (.ref A) e2 (sr2.heap.back hb) ?_
        show Rep _ _ _ _ (D.tl acc) _
        unfold Rep
        exact ⟨A, vacc, rfl, hA2, ⟨no2, fun z => sr.heap.prot A z hA⟩, Reps.back hb ra2⟩
      | true =>
        have hA : A ∈ β2.p := by rw [hp2]; exact List.mem_cons_self
        have hl : (M2 ++ [MO.lst acc]).length = M2.length + 1 := by simp
        have h4 : Post X.K W xa (RD X.K) σ H1 β M.length (.ok (.ref M2.length) (M2 ++ [.lst acc])) Q := h3
        refine h4 ⟨(ext1 β2 M2.length A).f, β.p⟩ H2 (.ref A) ?_ (sr2.heap.adopt hA hb hA2 no2 ra2) ?_
        · rw [hl]
          refine ⟨Nat.le_succ_of_le e2.le, fun n hn => ?_, e2.fr, fun n h1 h2 => ?_, e2.tr, rfl⟩
          · exact (ext1_lt A (Nat.lt_of_lt_of_le hn e2.le)).trans (e2.agree n hn)
          · by_cases hn : n < M2.length
            · have q := e2.new n h1 hn
              have e : (⟨(ext1 β2 M2.length A).f, β.p⟩ : Bt) n = β2 n := ext1_lt A hn
              rw [e]
              exact q
            · have : n = M2.length := by omega
              subst this
              have e : (⟨(ext1 β2 M2.length A).f, β.p⟩ : Bt) M2.length = A := ext1_at β2 M2.length A
              rw [e]
              assumption
        · show Rep _ _ _ _ (D.ref M2.length) _
          unfold Rep
          refine ⟨by rw [hl]; exact Nat.lt_succ_self _, ?_⟩
          exact (congrArg V.ref (ext1_at β2 M2.length A)).symm
theorem d_lc {mb : Bool} {s : Sys} {c : Cf} {elt tgE iter : Expr} {ifs : List Expr} {scope : Scope} {own : List (Str × Nat)} {g : G} {it te : E} {t : Option E} (hc : X.calm = true) (hN : X.N.Nodup)
    (hi : PI X tgE iter (tI X.K W xa none none (itE s c it))) (ok : BlkOk X.N X.env.scope scope own) (hsl : ∀ i ∈ slots g, i ∈ own.map (·.2))
    (hg : ∀ (s : Shared) (H : Hp) (C : Addr) (cl : List (Str × Addr)) (fp : List Addr), PG (X.blk s H scope (compEnvC scope cl C X.env) fp) tgE (gS X.K g))
    (ht : ∀ (s' : Shared) (H : Hp) (C : Addr) (cl : List (Str × Addr)) (fp : List Addr), PTs (X.blk s' H scope (compEnvC scope cl C X.env) fp) ifs (tTs X.K xa (tests s c t)))
    (he : ∀ (s' : Shared) (H : Hp) (C : Addr) (cl : List (Str × Addr)) (fp : List Addr), PE (X.blk s' H scope (compEnvC scope cl C X.env) fp) elt (tD X.K WF xa none none (s.e c te)))
    (hs : ∀ x, foldedSetIterable iter X.env x = pure x) :
    PE X (.ListComp elt [⟨tgE, iter, ifs, 0⟩] scope pos) (tD X.K W xa none none fun ρ M => (itE s c it ρ M).bind fun p M => (noExn (lcL s c g p.1 p.2 t te (wipeE ρ (own.map (·.2))) p.1 [] M)).bind fun l M => LX.newL mb l M) :=
  PE.imp (pe_lc hc hN hi ok hg ht he hs) fun σ H Q h => lc_read hsl h
end
end LX

set_option Elab.async false
set_option linter.all false
set_option maxRecDepth 100000
set_option maxHeartbeats 2000000
/-! LxStmt: the rules of statements. -/
namespace LX
open PySem L2 PyProof.Rows
def PostS (K : PySem.W.Frag) (W : WX) (xa : Nat → Addr) (hx : Option Hx) (η : Option (Nat × Flds)) (H : Hp) (β : Bt) (N : Nat) (r : SRes) (D : Ends) : Prop :=
  match r with
  | .nx ρ M' => ∀ β' H' σ', Ext β N H β' M'.length H' → SR K hx η H' β' M' ρ σ' → D.nx σ' H'
  | .bk ρ M' => ∀ β' H' σ', Ext β N H β' M'.length H' → SR K hx η H' β' M' ρ σ' → D.bk σ' H'
  | .ct ρ M' => ∀ β' H' σ', Ext β N H β' M'.length H' → SR K hx η H' β' M' ρ σ' → D.ct σ' H'
  | .rt d M' => ∀ β' H' v, Ext β N H β' M'.length H' → HeapR K H' β' M' → Rep K H' β' M'.length d v → D.rt v H'
  | .exn c fs ρ M' => ∀ β' H' σ' dx fvs, Ext β N H β' M'.length H' → SR K hx η H' β' M' ρ σ' → H' dx = some (.xd fvs) → (∀ f d, fs.lookup f = some d → ∃ v, fvs.lookup f = some v ∧ Rep K H' β' M'.length d v) → W (.ref (xa c)) (some dx) σ' H'
  | .stuck => False
def tS (K : PySem.W.Frag) (W : WX) (xa : Nat → Addr) (hx : Option Hx) (η : Option (Nat × Flds)) (f : Env → MH → SRes) : TS := fun D σ H => ∃ β ρ M, SR K hx η H β M ρ σ ∧ PostS K W xa hx η H β M.length (f ρ M) D
section
variable {K : PySem.W.Frag} {W : WX} {xa : Nat → Addr} {hx : Option Hx} {η : Option (Nat × Flds)} {H H1 : Hp} {β β1 : Bt} {N N1 : Nat} {D : Ends}
theorem PostS.ext {r : SRes} (h : PostS K W xa hx η H β N r D) (e : Ext β N H β1 N1 H1) : PostS K W xa hx η H1 β1 N1 r D := by
  cases r with
  | nx ρ M' => exact fun β' H' σ' e' s => h β' H' σ' (e.trans e') s
  | bk ρ M' => exact fun β' H' σ' e' s => h β' H' σ' (e.trans e') s
  | ct ρ M' => exact fun β' H' σ' e' s => h β' H' σ' (e.trans e') s
  | rt d M' => exact fun β' H' v e' hp r => h β' H' v (e.trans e') hp r
  | exn c fs ρ M' => exact fun β' H' σ' dx fvs e' s a b => h β' H' σ' dx fvs (e.trans e') s a b
  | stuck => exact h
theorem PostS.sbind {α A : Type} {R : Hp → Bt → Nat → α → A → Prop} {r : Res α} {ρ : Env} {σ : L2.St} {M : MH} {k : α → MH → SRes} (sr : SR K hx η H β M ρ σ) (h : PostS K W xa hx η H β M.length (r.sbind ρ k) D) :
    Post K W xa R σ H β M.length r fun a H1 => ∃ β1 M1 x, SR K hx η H1 β1 M1 ρ σ ∧ (∀ {d : LX.D} {u : V}, Rep K H β M.length d u → Rep K H1 β1 M1.length d u) ∧ R H1 β1 M1.length x a ∧ PostS K W xa hx η H1 β1 M1.length (k x M1) D := by
  cases r with
  | ok x M1 => exact fun β1 H1 v e hp rv => ⟨β1, M1, x, sr.mono e hp, Rep.mono sr.heap e, rv, PostS.ext h e⟩
  | exn c fs M1 => exact fun β1 H1 dx fvs e hp a b => h β1 H1 σ dx fvs e (sr.mono e hp) a b
  | stuck => exact h
end
/-- an expression, then the rest of its statement -/
theorem tR.sseq {α A : Type} {R : PySem.W.Frag → Hp → Bt → Nat → α → A → Prop} {K : PySem.W.Frag} {W : WX} {xa : Nat → Addr} {hx : Option Hx} {η : Option (Nat × Flds)} {f : Env → MH → Res α} {g : α → Env → MH → SRes} {σ : L2.St} {H : Hp} {D : Ends}
    (h : tS K W xa hx η (fun ρ M => (f ρ M).sbind ρ fun x M => g x ρ M) D σ H) {P : A → Hp → Prop}
    (i : ∀ β ρ M x v H1, SR K hx η H1 β M ρ σ → R K H1 β M.length x v → PostS K W xa hx η H1 β M.length (g x ρ M) D → P v H1) : tR R K W xa hx η f σ H P := by
  obtain ⟨β, ρ, M, sr, h⟩ := h
  exact ⟨β, ρ, M, sr, (PostS.sbind (R := R K) sr h).mono fun v H1 ⟨β1, M1, x, s1, _, r1, h1⟩ => i β1 ρ M1 x v H1 s1 r1 h1⟩
theorem tR.sseq2 {α A : Type} {R : PySem.W.Frag → Hp → Bt → Nat → α → A → Prop} {K : PySem.W.Frag} {W : WX} {xa : Nat → Addr} {hx : Option Hx} {η : Option (Nat × Flds)} {f : Env → MH → Res α} {g : α → MH → SRes} {σ : L2.St} {H : Hp} {D : Ends}
    {β : Bt} {ρ : Env} {M : MH} (sr : SR K hx η H β M ρ σ) (h : PostS K W xa hx η H β M.length ((f ρ M).sbind ρ fun x M => g x M) D) {P : A → Hp → Prop}
    (i : ∀ β1 M1 x v H1, SR K hx η H1 β1 M1 ρ σ → (∀ {d : LX.D} {u : V}, Rep K H β M.length d u → Rep K H1 β1 M1.length d u) → R K H1 β1 M1.length x v → PostS K W xa hx η H1 β1 M1.length (g x M1) D → P v H1) : tR R K W xa hx η f σ H P :=
  ⟨β, ρ, M, sr, (PostS.sbind (R := R K) sr h).mono fun v H1 ⟨β1, M1, x, s1, mo, r1, h1⟩ => i β1 M1 x v H1 s1 mo r1 h1⟩
section
variable {X : Cx} {W : WX} {xa : Nat → Addr} {hx : Option Hx} {η : Option (Nat × Flds)} {e a b o i e3 : Expr} {es : List Expr} {pos p p' : Pos} {st : Stmt} {sts ss1 ss2 : List Stmt} {fa fb fc fd : Env → MH → Res D} {ga gb : Env → MH → SRes} {x : Str} {k : Nat}
theorem PS.imp {t t' : TS} (h : PS X st t) (i : ∀ D σ H, t' D σ H → t D σ H) : PS X st t' := ⟨fun pins s σ H D I q => h.run pins s σ H D I (i D σ H q)⟩
theorem PSs.imp {t t' : TS} (h : PSs X sts t) (i : ∀ D σ H, t' D σ H → t D σ H) : PSs X sts t' := ⟨fun pins s σ H D I q => h.run pins s σ H D I (i D σ H q)⟩
theorem s_expr (h : PE X e (tD X.K W xa hx η fa)) (hs : swapsWith e none pos.line X.env = pure false) : PS X (.Expr e pos) (tS X.K W xa hx η fun ρ M => (fa ρ M).sbind ρ fun _ M => .nx ρ M) :=
  PS.imp (ps_expr h hs) fun D σ H q => tR.sseq q fun β ρ M d v H1 sr r1 h1 => h1 β H1 σ (Ext.refl ..) sr
theorem s_ret (h : PE X e (tD X.K W xa hx η fa)) : PS X (.Return (some e) pos) (tS X.K W xa hx η fun ρ M => (fa ρ M).sbind ρ fun d M => .rt d M) :=
  PS.imp (ps_ret h) fun D σ H q => tR.sseq q fun β ρ M d v H1 sr r1 h1 => h1 β H1 v (Ext.refl ..) sr.heap r1
theorem s_retN : PS X (.Return none pos) (tS X.K W xa hx η fun ρ M => .rt .non M) := PS.imp ps_retN fun D σ H ⟨β, ρ, M, sr, h⟩ => h β H .non (Ext.refl ..) sr.heap rfl
theorem s_pass : PS X (.Pass pos) (tS X.K W xa hx η fun ρ M => .nx ρ M) := PS.imp ps_pass fun D σ H ⟨β, ρ, M, sr, h⟩ => h β H σ (Ext.refl ..) sr
theorem s_brk : PS X (.Break pos) (tS X.K W xa hx η fun ρ M => .bk ρ M) := PS.imp ps_break fun D σ H ⟨β, ρ, M, sr, h⟩ => h β H σ (Ext.refl ..) sr
theorem s_cont : PS X (.Continue pos) (tS X.K W xa hx η fun ρ M => .ct ρ M) := PS.imp ps_continue fun D σ H ⟨β, ρ, M, sr, h⟩ => h β H σ (Ext.refl ..) sr
theorem s_set (hN : X.N.Nodup) (hi : X.N[k]? = some x) (hl : Loc X.env.scope x) (hf : X.fn x = true ∨ X.env.scope.names.lookup x = some .local) (hfr : freeI hx k) (h : PE X e (tD X.K W xa hx η fa)) (hs : swapsWith e (some (.Name x p')) pos.line X.env = pure false) :
    PS X (.Assign [.Name x p'] e pos) (tS X.K W xa hx η fun ρ M => (fa ρ M).sbind ρ fun d M => .nx (ρ.set k (some d)) M) :=
  PS.imp (ps_set hN hi hl h hs hf) fun D σ H q => tR.sseq q fun β ρ M d v H1 sr r1 h1 => h1 β H1 _ (Ext.refl ..) (sr.set r1 hfr)
theorem s_unp {is : List Nat} {ts : List Expr} {k0 : Nat} {tp : Pos} (hc : X.calm = true) (hl : is.length = ts.length) (hn : ∀ (k i : Nat) (t : Expr), is[k]? = some i → ts[k]? = some t → ∃ x p, t = Expr.Name x p ∧ X.N[i]? = some x ∧ Loc X.env.scope x ∧ (X.fn x = true ∨ X.env.scope.names.lookup x = some .local)) (nd : X.N.Nodup)
    (h1 : (assignEach ts X.env).length = is.length) (h2 : (assignEach ts X.env).findIdx? (·.1) = none) (hfr : ∀ i ∈ is, freeI hx i) (h : PE X e (tD X.K W xa hx η fa)) (hs : swapsWithSole [.Tuple ts k0 tp] e pos.line X.env = pure false) (hw : swappedStores [.Tuple ts k0 tp] e X.env = pure none) :
    PS X (.Assign [.Tuple ts k0 tp] e pos) (tS X.K W xa hx η fun ρ M => (fa ρ M).sbind ρ fun d M => match bindG (.tup is) d ρ with
      | some ρ' => .nx ρ' M
      | none => .stuck) :=
  PS.imp (ps_asg h (g_tup hc hl hn nd h1 h2) hs hw rfl) fun D σ H q => tR.sseq q fun β ρ M d v H1 sr r1 h1 => by
    cases f : bindG (.tup is) d ρ with
    | none => rw [f] at h1; exact h1.elim
    | some ρ' =>
      rw [f] at h1
      exact gS_of sr r1 f hfr fun σ' s' => h1 β H1 σ' (Ext.refl ..) s'
theorem s_unl {is : List Nat} {ts : List Expr} {k0 : Nat} {tp : Pos} (hc : X.calm = true) (hl : is.length = ts.length) (hn : ∀ (k i : Nat) (t : Expr), is[k]? = some i → ts[k]? = some t → ∃ x p, t = Expr.Name x p ∧ X.N[i]? = some x ∧ Loc X.env.scope x ∧ (X.fn x = true ∨ X.env.scope.names.lookup x = some .local)) (nd : X.N.Nodup)
    (h1 : (assignEach ts X.env).length = is.length) (h2 : (assignEach ts X.env).findIdx? (·.1) = none) (hfr : ∀ i ∈ is, freeI hx i) (h : PE X e (tD X.K W xa hx η fa)) (hs : swapsWithSole [.Tuple ts k0 tp] e pos.line X.env = pure false) (hw : swappedStores [.Tuple ts k0 tp] e X.env = pure none) :
    PS X (.Assign [.Tuple ts k0 tp] e pos) (tS X.K W xa hx η fun ρ M => (fa ρ M).sbind ρ fun d M => match tlOf M d with
      | some xs => if is.length = xs.length then .nx (LX.setAll is xs ρ) M else .stuck
      | none => .stuck) :=
  PS.imp (ps_asg h (pg_unl hc (g_names hl hn nd) h1 h2) hs hw rfl) fun D σ H q => tR.sseq q fun β ρ M d v H1 sr r1 h1 => by
    cases f : tlOf M d with
    | none => rw [f] at h1; exact h1.elim
    | some xs =>
      rw [f] at h1
      dsimp only at h1
      by_cases hz : is.length = xs.length
      · rw [if_pos hz] at h1
        obtain ⟨a, vs, rfl, q1, rs⟩ := r1.tlO sr.heap f
        refine ⟨a, vs, rfl, SqL.of q1, by rw [rs.length, hz], by rw [rs.length, hz], ?_⟩
        exact h1 β H1 _ (Ext.refl ..) (sr.setAll rs hfr)
      · rw [if_neg hz] at h1
        exact h1.elim
theorem s_par {y : Str} {j : Nat} {px py pt : Pos} {kt k2 : Nat} {pt2 : Pos} (hc : X.calm = true) (hN : X.N.Nodup) (hi : X.N[k]? = some x) (hj : X.N[j]? = some y) (hij : k ≠ j) (hlx : X.env.scope.names.lookup x = some .local) (hly : X.env.scope.names.lookup y = some .local)
    (ha : PE X a (tD X.K W xa hx η fa)) (hb : PE X b (tD X.K W xa hx η fb)) (hsa : noStar a = true) (hsb : noStar b = true) (hf1 : freeI hx k) (hf2 : freeI hx j)
    (hw : swappedStores [.Tuple [.Name x px, .Name y py] kt pt] (.Tuple [a, b] k2 pt2) X.env = pure (some [x, y])) :
    PS X (.Assign [.Tuple [.Name x px, .Name y py] kt pt] (.Tuple [a, b] k2 pt2) pos) (tS X.K W xa hx η fun ρ M => (fa ρ M).sbind ρ fun x M => (fb ρ M).sbind ρ fun y M => .nx ((ρ.set k (some x)).set j (some y)) M) :=
  PS.imp (ps_par hc hN hi hj hij hlx hly (pa_cons ha (pa_cons hb pa_nil (star1 (noStar_ne hsb))) (star1 (noStar_ne hsa))) hw rfl) fun D σ H q => tR.sseq q fun β ρ M d v H1 sr r1 h1 => tR.sseq2 sr h1 fun β2 M2 d2 v2 H2 sr2 mo r2 h2 =>
    ⟨v, v2, rfl, h2 β2 H2 _ (Ext.refl ..) ((sr2.set (mo r1) hf1).set r2 hf2)⟩
theorem s_put (ho : PE X o (tD X.K W xa hx η fb)) (hi : PE X i (tD X.K W xa hx η fc)) (h : PE X e (tD X.K W xa hx η fa)) (ha : ∀ v, assign (.Subscript o i p') X.env v = (do
      let ov ← holding [v] (eval o X.env)
      let iv ← holding [v, ov] (eval i X.env)
      standAt p'
      holding [v, ov, iv] (setItem ov iv v)
      release [v, ov, iv] [])) (hs : swapsWithSole [.Subscript o i p'] e pos.line X.env = pure false) :
    PS X (.Assign [.Subscript o i p'] e pos) (tS X.K W xa hx η fun ρ M => (fa ρ M).sbind ρ fun v M => (fb ρ M).sbind ρ fun x M => (fc ρ M).sbind ρ fun y M => match putD M x y v with
      | some M => .nx ρ M
      | none => .stuck) :=
  PS.imp (ps_asg h (pg_sub ho hi set_list ha) hs rfl rfl) fun D σ H q => tR.sseq q fun β ρ M d v H1 sr r1 h1 => tR.sseq2 sr h1 fun β2 M2 x v2 H2 sr2 mo r2 h2 => tR.sseq2 sr2 h2 fun β3 M3 y v3 H3 sr3 mo3 r3 h3 => by
    cases f : putD M3 x y d with
    | none => rw [f] at h3; exact h3.elim
    | some M4 =>
      rw [f] at h3
      cases x with
      | ref n =>
        cases y with
        | int j =>
          have f' : ((lstAt M3 n).bind fun xs => (ixN xs.length j).map fun q => M3.set n (.lst (xs.set q d))) = some M4 := f
          obtain ⟨xs, e1, e2⟩ := Option.bind_eq_some_iff.mp f'
          obtain ⟨q, e3, e4⟩ := Option.map_eq_some_iff.mp e2
          subst e4
          obtain ⟨hn, vs, hq, rs⟩ := sr3.heap.lst e1
          have r2' := mo3 r2
          unfold Rep at r2'
          refine ⟨_, vs, j, q, r2'.2, r3, hq, by rw [rs.length]; exact e3, ?_⟩
          have rd := mo3 (mo r1)
          have ht : H3 (β3 n) ≠ none := by rw [hq]; simp
          refine h3 β3 _ σ (by rw [List.length_set]; exact Ext.write hn ht) (SR.mono sr3 (by rw [List.length_set]; exact Ext.write hn ht) (sr3.heap.write hn (rs.set q rd)))
        | _ => cases f
      | _ => cases y <;> cases f
theorem aug_ok {op : Operator} : OpR X (inplaceOp op) (r2 X.K WT xa [] fun M x y => augD M op x y) := by
  intro pins s σ H x y v u Q I rx ry h
  obtain ⟨β, M, a, b, hp, ra, rb, h⟩ := h
  unfold augD at h
  dsimp only at h
  split at h
  · exact iop_add pins s σ H x y v u Q I rx ry ⟨_, _, ra, rb, h.okR hp rfl⟩
  · exact iop_sub pins s σ H x y v u Q I rx ry ⟨_, _, ra, rb, h.okR hp rfl⟩
  · obtain ⟨hz, h⟩ := Post.ite h
    exact iop_mul pins s σ H x y v u Q I rx ry ⟨_, _, ra, rb, smallI_ok hz, h.okR hp rfl⟩
  · obtain ⟨hz, h⟩ := Post.ite h
    obtain ⟨_, rfl⟩ := ra.strI
    obtain ⟨_, rfl⟩ := rb.strI
    refine iop_add_str pins s σ H _ _ v u Q I rx ry ⟨_, _, rfl, rfl, by rw [len_str_arr, len_str_arr, lim_eq]; exact hz, ?_⟩
    rw [app_str_arr]
    exact h.okR hp (Rep.mkStr (by rw [List.length_append]; exact hz))
  · exact h.elim
theorem s_aug {op : Operator} (hN : X.N.Nodup) (hi : X.N[k]? = some x) (hl : Loc X.env.scope x) (hf : X.fn x = true ∨ X.env.scope.names.lookup x = some .local) (hfr : freeI hx k) (h : PE X e (tD X.K W xa hx η fa)) :
    PS X (.AugAssign (.Name x p') op e pos) (tS X.K W xa hx η fun ρ M => match ρ[k]? with
      | some (some x) => (fa ρ M).sbind ρ fun y M => (augD M op x y).sbind ρ fun d M => .nx (ρ.set k (some d)) M
      | _ => .stuck) :=
  PS.imp (ps_aug hN hi hl h (fun pins s σ H x y v u Q I rx ry q => aug_ok (X := X) (xa := xa) pins s σ H x y v u Q I rx ry q) hf) fun D σ H q => by
    obtain ⟨β, ρ, M, sr, q⟩ := q
    dsimp only at q
    split at q
    · rename_i d hd
      obtain ⟨v, e1, r1⟩ := sr.env.val k d hd
      refine ⟨v, e1, tR.sseq2 sr q fun β2 M2 y v2 H2 sr2 mo r2 h2 => ⟨β2, M2, d, y, sr2.heap, mo r1, r2, ?_⟩⟩
      exact Post.toT (σ := σ) (W := W) ((PostS.sbind (R := RD X.K) sr2 h2).mono fun v3 H3 ⟨β3, M3, z, s3, _, r3, h3⟩ => h3 β3 H3 _ (Ext.refl ..) (s3.set r3 hfr))
    · exact q.elim
theorem s_ite (hc : PT X e (tT X.K W xa hx η fa)) (h1 : PSs X ss1 (tS X.K W xa hx η ga)) (h2 : PSs X ss2 (tS X.K W xa hx η gb)) :
    PS X (.If e ss1 ss2 pos) (tS X.K W xa hx η fun ρ M => (fa ρ M).sbind ρ fun d M => match asBl d with
      | some true => ga ρ M
      | some false => gb ρ M
      | none => .stuck) :=
  PS.imp (ps_if hc h1 h2) fun D σ H q => tR.sseq q fun β ρ M d v H1 sr r1 h1 => by
    cases f : asBl d with
    | none => rw [f] at h1; exact h1.elim
    | some b =>
      rw [f] at h1
      have := asBl_some f
      subst this
      refine ⟨b, r1, ?_⟩
      cases b with
      | true => exact ⟨β, ρ, M, sr, h1⟩
      | false => exact ⟨β, ρ, M, sr, h1⟩
theorem ss_nil : PSs X [] (tS X.K W xa hx η fun ρ M => .nx ρ M) := PSs.imp pss_nil fun D σ H ⟨β, ρ, M, sr, h⟩ => h β H σ (Ext.refl ..) sr
theorem PostS.seq {K : PySem.W.Frag} {H : Hp} {β : Bt} {N : Nat} {D : Ends} {r : SRes} {k : Env → MH → SRes} (h : PostS K W xa hx η H β N (r.sbind k) D) : PostS K W xa hx η H β N r { D with nx := tS K W xa hx η k D } := by
  cases r with
  | nx ρ M' => exact fun β' H' σ' e s => ⟨β', ρ, M', s, PostS.ext h e⟩
  | _ => exact h
theorem ss_cons (h1 : PS X st (tS X.K W xa hx η ga)) (h2 : PSs X sts (tS X.K W xa hx η gb)) : PSs X (st :: sts) (tS X.K W xa hx η fun ρ M => (ga ρ M).sbind gb) :=
  PSs.imp (pss_cons h1 h2) fun D σ H ⟨β, ρ, M, sr, h⟩ => ⟨β, ρ, M, sr, h.seq⟩
/-! ### loops -/
theorem s_for {s : Sys} {c : Cf} {g : G} {it : E} {bs : List S} {tg iter : Expr} {body : List Stmt} (hp : PassesOwn (model X.prog X.w) X.A X.env X.xe) (hc : X.calm = true) (hi : PI X tg iter (tI X.K W xa hx η (itE s c it))) (hg : PG X tg (gS X.K g)) (hfr : ∀ i ∈ slots g, freeI hx i)
    (hb : PSs X body (tS X.K W xa hx η (s.ss c bs))) (hs : ∀ x, foldedSetIterable iter X.env x = pure x) :
    PS X (.For tg iter body [] pos) (tS X.K W xa hx η fun ρ M => (itE s c it ρ M).sbind ρ fun p M => forL s c g p.1 p.2 bs p.1 ρ M) := by
  refine PS.imp (ps_for hp hc hi hg hb hs) fun D σ H q => tR.sseq q fun β ρ M pp J H1 sr r1 h1 => ?_
  obtain ⟨all, chk⟩ := pp
  have r1 : ItR X.K H1 β M.length all chk J := r1
  refine ⟨fun i m σ2 H2 => m = all.length - i ∧ i ≤ all.length ∧ ∃ β2 ρ2 M2, SR X.K hx η H2 β2 M2 ρ2 σ2 ∧ ItR X.K H2 β2 M2.length all chk J ∧ PostS X.K W xa hx η H2 β2 M2.length (forL s c g all chk bs (all.drop i) ρ2 M2) D, ⟨all.length, rfl, Nat.zero_le _, β, ρ, M, sr, r1, h1⟩, ?_⟩
  rintro i m σ2 H2 ⟨rfl, hi2, β2, ρ2, M2, sr2, it2, h2⟩
  have hst : stays M2 all chk = true := by
    cases q : stays M2 all chk with
    | true => rfl
    | false =>
      exfalso
      cases f : all.drop i with
      | nil =>
        rw [f] at h2
        unfold forL at h2
        rw [q] at h2
        exact h2
      | cons x xs =>
        rw [f] at h2
        unfold forL at h2
        rw [q] at h2
        exact h2
  by_cases hlt : i < all.length
  · right
    obtain ⟨g1, g2⟩ := it2.go sr2.heap hst (List.getElem?_eq_getElem hlt)
    refine ⟨g1, fun σ' H' => ∃ β2 ρ2 M2, SR X.K hx η H' β2 M2 ρ2 σ' ∧ ItR X.K H' β2 M2.length all chk J ∧ PostS X.K W xa hx η H' β2 M2.length (forL s c g all chk bs (all.drop (i + 1)) ρ2 M2) D, fun σ' H' q => ⟨all.length - (i + 1), by omega, rfl, hlt, q⟩, fun v H' y => ?_⟩
    obtain ⟨ey, hpy, rv⟩ := g2 v H' y
    have it2 := it2.mono sr2.heap ey
    have h2 := PostS.ext h2 ey
    have sr2 := sr2.mono ey hpy
    rw [List.drop_eq_getElem_cons hlt] at h2
    unfold forL at h2
    rw [if_pos hst] at h2
    cases bg : bindG g all[i] ρ2 with
    | none => rw [bg] at h2; exact h2.elim
    | some ρ' =>
      rw [bg] at h2
      dsimp only at h2
      refine gS_of sr2 rv bg hfr fun σ' sr3 => ⟨β2, ρ', M2, sr3, ?_⟩
      cases qb : s.ss c bs ρ' M2 with
      | nx ρ3 M3 => rw [qb] at h2; exact fun β3 H3 σ3 e3 s3 => ⟨β3, ρ3, M3, s3, it2.mono sr2.heap e3, PostS.ext h2 e3⟩
      | ct ρ3 M3 => rw [qb] at h2; exact fun β3 H3 σ3 e3 s3 => ⟨β3, ρ3, M3, s3, it2.mono sr2.heap e3, PostS.ext h2 e3⟩
      | bk ρ3 M3 => rw [qb] at h2; exact h2
      | rt d M3 => rw [qb] at h2; exact h2
      | exn k fs ρ3 M3 => rw [qb] at h2; exact h2
      | stuck => rw [qb] at h2; exact h2.elim
  · left
    refine ⟨it2.stop sr2.heap hst (Nat.le_of_not_lt hlt), ?_⟩
    rw [List.drop_eq_nil_of_le (Nat.le_of_not_lt hlt)] at h2
    unfold forL at h2
    rw [if_pos hst] at h2
    exact h2 β2 H2 σ2 (Ext.refl ..) sr2
theorem s_wh {n : Nat} {F : Nat → Env → MH → SRes} {f : Nat → Env → MH → Res D} {g : Nat → Env → MH → SRes} {body : List Stmt} (hp : PassesOwn (model X.prog X.w) X.A X.env X.xe) (hc : ∀ k, k < n → PT X e (tT X.K W xa hx η (f k))) (hb : ∀ k, k < n → PSs X body (tS X.K W xa hx η (g k)))
    (h0 : ∀ ρ M, F 0 ρ M = .stuck) (hF : ∀ k, k < n → ∀ ρ M, F (k + 1) ρ M = (f k ρ M).sbind ρ fun d M => match asBl d with
      | some true => match g k ρ M with
        | .nx ρ M => F k ρ M
        | .ct ρ M => F k ρ M
        | .bk ρ M => .nx ρ M
        | r => r
      | some false => .nx ρ M
      | none => .stuck) : PS X (.While e body [] pos) (tS X.K W xa hx η (F n)) := by
  have hc' : PT X e (fun σ H Q => ∃ k, k < n ∧ tT X.K W xa hx η (f k) σ H Q) := ⟨fun pins s σ H Q I ⟨k, hk, q⟩ => (hc k hk).run pins s σ H Q I q⟩
  have hb' : PSs X body (fun D σ H => ∃ k, k < n ∧ tS X.K W xa hx η (g k) D σ H) := ⟨fun pins s σ H D I ⟨k, hk, q⟩ => (hb k hk).run pins s σ H D I q⟩
  refine PS.imp (ps_while hp hc' hb') fun D σ H q => ?_
  refine ⟨fun m σ2 H2 => m ≤ n ∧ tS X.K W xa hx η (F m) D σ2 H2, ⟨n, Nat.le_refl _, q⟩, ?_⟩
  rintro m σ2 H2 ⟨hm, β2, ρ2, M2, sr2, h2⟩
  cases m with
  | zero => rw [h0] at h2; exact h2.elim
  | succ k =>
    rw [hF k hm] at h2
    refine ⟨k, hm, tR.sseq2 (R := RD) sr2 h2 fun β3 M3 d v H3 sr3 mo r3 h3 => ?_⟩
    cases q1 : asBl d with
    | none => rw [q1] at h3; exact h3.elim
    | some b =>
      rw [q1] at h3
      have := asBl_some q1
      subst this
      refine ⟨b, r3, ?_⟩
      cases b with
      | false => exact h3 β3 H3 σ2 (Ext.refl ..) sr3
      | true =>
        refine ⟨fun σ' H' => tS X.K W xa hx η (F k) D σ' H', fun σ' H' q => ⟨k, Nat.lt_succ_self _, Nat.le_of_lt hm, q⟩, k, hm, β3, ρ2, M3, sr3, ?_⟩
        have h4 : PostS X.K W xa hx η H3 β3 M3.length (match g k ρ2 M3 with
          | .nx ρ M => F k ρ M
          | .ct ρ M => F k ρ M
          | .bk ρ M => .nx ρ M
          | r => r) D := h3
        cases qb : g k ρ2 M3 with
        | nx ρ4 M4 => rw [qb] at h4; exact fun β4 H4 σ4 e4 s4 => ⟨β4, ρ4, M4, s4, PostS.ext h4 e4⟩
        | ct ρ4 M4 => rw [qb] at h4; exact fun β4 H4 σ4 e4 s4 => ⟨β4, ρ4, M4, s4, PostS.ext h4 e4⟩
        | bk ρ4 M4 => rw [qb] at h4; exact h4
        | rt d M4 => rw [qb] at h4; exact h4
        | exn k fs ρ4 M4 => rw [qb] at h4; exact h4
        | stuck => rw [qb] at h4; exact h4.elim
end
end LX

set_option Elab.async false
set_option linter.all false
set_option maxRecDepth 100000
set_option maxHeartbeats 2000000
/-! LxExc: own exceptions: their making, raise, try, their fields, their kinds. -/
namespace LX
open PySem L2 PyProof.Rows
/-! ### a def's names -/
def fscC (N ps : List Str) (sc : Scope) : Bool :=
  (match sc.kind with
    | .function => true
    | _ => false) && !sc.isCoroutine && !sc.isGenerator && decide N.Nodup && decide (N.take ps.length = ps) && ps.all (fun x => match sc.names.lookup x with
    | some .local => true
    | some .cell => true
    | _ => false) && sc.names.all fun y => match y.2 with
    | .free => false
    | _ => true
theorem fsc_by {N ps : List Str} {sc : Scope} (h : fscC N ps sc = true) : FnScope N ps sc := by
  unfold fscC at h
  simp only [Bool.and_eq_true, decide_eq_true_eq, Bool.not_eq_true', List.all_eq_true] at h
  obtain ⟨⟨⟨⟨⟨⟨h1, h2⟩, h3⟩, h4⟩, h5⟩, h6⟩, h7⟩ := h
  refine ⟨?_, h2, h3, h4, h5, fun x hx => ?_, fun y hy e => ?_⟩
  · split at h1
    · assumption
    · cases h1
  · have q := h6 x hx
    split at q <;> first | exact .inl (by assumption) | exact .inr (by assumption) | cases q
  · have q := h7 y hy
    rw [e] at q
    cases q
def locB (sc : Scope) (x : Str) : Bool := match sc.names.lookup x with
  | some .local => true
  | some .cell => true
  | _ => false
theorem locB_ok {sc : Scope} {x : Str} (h : locB sc x = true) : Loc sc x := by
  unfold locB at h
  split at h <;> first | exact .inl (by assumption) | exact .inr (by assumption) | cases h
def visB (sc : Scope) (x : Str) : Bool := match sc.names.lookup x with
  | some .local => true
  | some .cell => true
  | some .free => true
  | _ => false
theorem visB_ok {sc : Scope} {x : Str} (h : visB sc x = true) : Vis sc x := by
  unfold visB at h
  split at h <;> first | exact .inl (by assumption) | exact .inr (.inl (by assumption)) | exact .inr (.inr (by assumption)) | cases h
def nm (x : Str) : Bool := !(x == ("__debug__" : Str)) && !(x == ("__classdict__" : Str))
theorem nm_ok {x : Str} (h : nm x = true) : (x == ("__debug__" : Str)) = false ∧ (x == ("__classdict__" : Str)) = false := by
  unfold nm at h
  rw [Bool.and_eq_true, Bool.not_eq_true', Bool.not_eq_true'] at h
  exact h
/-! ### __init__ -/
def spI (C : Addr) (flds : List Str) : Sp := fun vs H Q _ => ∃ a ws, vs = .ref a :: ws ∧ ws.length = flds.length ∧ H a = some (exo a C none) ∧
  ∀ dx H', H dx = none → dx ≠ a → H' a = some (exo a C (some dx)) → H' dx = some (exd dx (flds.zip ws).reverse) → (∀ b, b ≠ a → b ≠ dx → H' b = H b) → Q .non H'
def initC (N : List Str) (sc : Scope) : Nat → List Str → List Stmt → Bool
  | _, [], [] => true
  | j, f :: fs, .Assign [.Attribute (.Name s _) f' _] (.Name y _) _ :: r => decide (f = f') && (decide (N[0]? = some s) && (decide (N[j]? = some y) && (visB sc s && (visB sc y && (nm s && (nm y && initC N sc (j + 1) fs r))))))
  | _, _, _ => false
def tInit (K : PySem.W.Frag) : Nat → List Str → TS
  | _, [] => tNext
  | j, f :: fs => tSeq (tOst K f (tVar 0) (tVar j)) (tInit K (j + 1) fs)
theorem pss_init {X : Cx} {sc : Scope} (hs : X.env.scope = sc) : ∀ {fs : List Str} {j : Nat} {ss : List Stmt}, initC X.N sc j fs ss = true → PSs X ss (tInit X.K j fs)
  | [], _, [], _ => pss_nil
  | [], _, _ :: _, h => by cases h
  | f :: fs, _, [], h => by cases h
  | f :: fs, j, st :: r, h => by
    unfold initC at h
    split at h
    · contradiction
    · rename_i f2 fs2 s p1 f' p2 y p3 pos r2 e1 e2
      cases e1
      cases e2
      rw [Bool.and_eq_true, Bool.and_eq_true, Bool.and_eq_true, Bool.and_eq_true, Bool.and_eq_true, Bool.and_eq_true, Bool.and_eq_true, decide_eq_true_eq, decide_eq_true_eq, decide_eq_true_eq] at h
      obtain ⟨h1, h2, h3, h4, h5, h6, h7, h8⟩ := h
      subst h1
      exact pss_cons (ps_ost (pe_var h2 (by rw [hs]; exact visB_ok h4) (nm_ok h6).1 (nm_ok h6).2) (pe_var h3 (by rw [hs]; exact visB_ok h5) (nm_ok h7).1 (nm_ok h7).2)) (pss_init hs h8)
    · cases h
theorem init_more {K : PySem.W.Frag} {C a dx : Addr} (T : OexC K C) : ∀ (fs : List Str) (us : List V) (done : List (Str × V)) (j : Nat) (σ : L2.St) (H : Hp) (D : Ends), (∀ f ∈ fs, PySem.W.findIn K (.ref C) f = some none) → us.length = fs.length → (∀ i u, us[i]? = some u → σ[j + i]? = some (some u)) →
    σ[0]? = some (some (.ref a)) → dx ≠ a → H a = some (exo a C (some dx)) → H dx = some (exd dx done) → done.length + fs.length ≤ 900 →
    (∀ H', H' a = some (exo a C (some dx)) → H' dx = some (exd dx ((fs.zip us).reverse ++ done)) → (∀ b, b ≠ a → b ≠ dx → H' b = H b) → D.nx σ H') → tInit K j fs D σ H
  | [], us, done, j, σ, H, D, _, hl, hσ, h0, hne, ha, hd, hz, q => q H ha (by simpa using hd) fun _ _ _ => rfl
  | f :: fs, [], done, j, σ, H, D, _, hl, hσ, h0, hne, ha, hd, hz, q => by cases hl
  | f :: fs, u :: us, done, j, σ, H, D, hno, hl, hσ, h0, hne, ha, hd, hz, q => by
    refine ⟨u, by simpa using hσ 0 u rfl, .ref a, h0, a, C, rfl, T, hno f List.mem_cons_self, .inr ⟨dx, done, ha, hd, by simp at hz; omega, ?_⟩⟩
    refine init_more T fs us ((f, u) :: done) (j + 1) σ _ D (fun g hg => hno g (List.mem_cons_of_mem _ hg)) (by simpa using hl) (fun i v e => ?_) h0 hne (by rw [upd_ne (Ne.symm hne)]; exact ha) upd_same (by simp at hz ⊢; omega) fun H' h1 h2 h3 => q H' h1 ?_ fun b hb hb2 => ?_
    · have := hσ (i + 1) v (by simpa using e)
      rw [show j + 1 + i = j + (i + 1) by omega]
      exact this
    · rw [h2]
      simp
    · rw [h3 b hb hb2, upd_ne hb2]
theorem init_read {K : PySem.W.Frag} {C a : Addr} (T : OexC K C) (f : Str) (fs : List Str) (u : V) (us : List V) (σ : L2.St) (H : Hp) (D : Ends) (hno : ∀ g ∈ f :: fs, PySem.W.findIn K (.ref C) g = some none) (hl : us.length = fs.length) (hσ : ∀ i v, (u :: us)[i]? = some v → σ[1 + i]? = some (some v))
    (h0 : σ[0]? = some (some (.ref a))) (ha : H a = some (exo a C none)) (hz : fs.length ≤ 800)
    (q : ∀ dx H', H dx = none → dx ≠ a → H' a = some (exo a C (some dx)) → H' dx = some (exd dx ((f :: fs).zip (u :: us)).reverse) → (∀ b, b ≠ a → b ≠ dx → H' b = H b) → D.nx σ H') : tInit K 1 (f :: fs) D σ H := by
  refine ⟨u, by simpa using hσ 0 u rfl, .ref a, h0, a, C, rfl, T, hno f List.mem_cons_self, .inl ⟨ha, fun dx hn hne => ?_⟩⟩
  refine init_more T fs us [(f, u)] 2 σ _ D (fun g hg => hno g (List.mem_cons_of_mem _ hg)) hl (fun i v e => ?_) h0 hne upd_same (by rw [upd_ne hne]; exact upd_same) (by simp; omega) fun H' h1 h2 h3 => q dx H' hn hne h1 ?_ fun b hb hb2 => ?_
  · have := hσ (i + 1) v (by simpa using e)
    rw [show 2 + i = 1 + (i + 1) by omega]
    exact this
  · rw [h2]
    simp
  · rw [h3 b hb hb2, upd_ne hb, upd_ne hb2]
/-- what the text says of an exception class that has an __init__ of its own -/
structure XIni (K : PySem.W.Frag) (C : Addr) (flds : List Str) : Prop where
  T : OexC K C
  X : XfC K C
  no : ∀ f ∈ flds, PySem.W.findIn K (.ref C) f = some none
  ne : flds ≠ []
  few : flds.length ≤ 20
  it : ∃ (f : Addr) (qual : Str) (st : Stmt) (fd : FuncData) (N : List Str), PySem.W.findIn K (.ref C) "__init__" = some (some (.ref f)) ∧ PySem.W.typeIn K (.ref f) = some (.type "function") ∧ Fun K "__init__" qual st f fd ∧ FnScope N N (defScope st) ∧ N.length = flds.length + 1 ∧
    initC N (defScope st) 1 flds (defBody st) = true ∧ Binds K fd N []
theorem start_get {N : List Str} {vs : List V} {i : Nat} {v : V} (h : vs[i]? = some v) : (L2.start N vs)[i]? = some (some v) := by
  unfold L2.start
  have hl : i < vs.length := (List.getElem?_eq_some_iff.mp h).1
  rw [List.getElem?_append_left (by rw [List.length_map]; exact hl), List.getElem?_map, h]
  rfl
theorem XIni.ok {P : Program} {w : World} {K : PySem.W.Frag} {mg : Str → Option Value} {base : Heap} {C : Addr} {flds : List Str} (I : XIni K C flds) :
    ∃ (f : Addr) (fd : FuncData) (N : List Str), PySem.W.findIn K (.ref C) "__init__" = some (some (.ref f)) ∧ PySem.W.typeIn K (.ref f) = some (.type "function") ∧ FnOk P w K mg base (L2.CX P w) 1 f fd N (spI C flds) ∧ Binds K fd N [] := by
  obtain ⟨f, qual, st, fd, N, h1, h2, F, S, hl, hc, hb⟩ := I.it
  refine ⟨f, fd, N, h1, h2, F.okX S (fun vs H Q E h => ?_) (fun cdv A outer s H vs Q E hr h => ?_), hb⟩
  · obtain ⟨a, ws, rfl, h2, _⟩ := h
    rw [List.length_cons, h2, hl]
  · obtain ⟨a, ws, rfl, hw, ha, hq⟩ := h
    refine ⟨_, pss_init (X := cxOf (L2.CX P w) P w K mg base N qual (defScope st) f cdv A outer s H E) (sc := defScope st) rfl hc, ?_⟩
    have few := I.few
    have no := I.no
    cases flds with
    | nil => exact absurd rfl I.ne
    | cons g gs =>
      cases ws with
      | nil => cases hw
      | cons u us =>
        refine init_read I.T g gs u us _ H _ no (by simpa using hw) (fun i v e => start_get ?_) (start_get rfl) ha (by simp at few; omega) fun dx H' a1 a2 a3 a4 a5 => hq dx H' a1 a2 a3 a4 a5
        rw [show 1 + i = i + 1 by omega]
        exact e
end LX

set_option Elab.async false
set_option linter.all false
set_option maxRecDepth 100000
set_option maxHeartbeats 2000000
/-! LxTry: raise, try, the handled exception. -/
namespace LX
open PySem L2 PyProof.Rows
theorem zip_lookup {K : PySem.W.Frag} {H : Hp} {β : Bt} {N : Nat} {f : Str} {d : D} : ∀ {fs : List Str} {ds : List D} {vs : List V}, fs.Nodup → fs.length = ds.length → Reps K H β N ds vs → (zipF fs ds).lookup f = some d → ∃ v, (fs.zip vs).reverse.lookup f = some v ∧ Rep K H β N d v := by
  have aux : ∀ {fs : List Str} {ds : List D} {vs : List V} {acc : List (Str × V)}, fs.Nodup → fs.length = ds.length → Reps K H β N ds vs → (zipF fs ds).lookup f = some d → ∃ v, ((fs.zip vs).reverse ++ acc).lookup f = some v ∧ Rep K H β N d v := by
    intro fs
    induction fs with
    | nil =>
      intro ds vs acc _ _ _ h
      cases ds <;> cases h
    | cons g gs ih =>
      intro ds vs acc hn hl r h
      cases ds with
      | nil => cases hl
      | cons e es =>
        obtain ⟨v, w, rfl, r1, r2⟩ := r.consI
        have hz : ((g :: gs).zip (v :: w)).reverse ++ acc = (gs.zip w).reverse ++ ((g, v) :: acc) := by simp
        rw [hz]
        have hg := List.nodup_cons.mp hn
        have h' : (match f == g with
          | true => some e
          | false => (zipF gs es).lookup f) = some d := h
        by_cases q : f = g
        · subst q
          rw [show (f == f) = true by simp] at h'
          obtain rfl := Option.some.inj h'
          refine ⟨v, ?_, r1⟩
          have nz : ∀ {l : List (Str × V)}, f ∉ l.map (·.1) → (l ++ (f, v) :: acc).lookup f = some v := by
            intro l
            induction l with
            | nil => intro _; simp [List.lookup]
            | cons p l ih2 =>
              intro hp
              rw [List.map_cons, List.mem_cons, not_or] at hp
              obtain ⟨x, y⟩ := p
              have e1 : (f == x) = false := by simpa using hp.1
              show (match f == x with
                | true => some y
                | false => (l ++ (f, v) :: acc).lookup f) = some v
              rw [e1]
              exact ih2 hp.2
          refine nz fun hm => hg.1 ?_
          rw [List.map_reverse, List.mem_reverse, List.mem_map] at hm
          obtain ⟨p, hp, rfl⟩ := hm
          obtain ⟨x, y⟩ := p
          exact (List.of_mem_zip hp).1
        · rw [show (f == g) = false by simpa using q] at h'
          exact ih hg.2 (by simpa using hl) r2 h'
  intro fs ds vs a b c d
  obtain ⟨v, h1, h2⟩ := aux (acc := []) a b c d
  rw [List.append_nil] at h1
  exact ⟨v, h1, h2⟩
section
variable {X : Cx} {W : WX} {xa : Nat → Addr} {η : Option (Nat × Flds)} {e a b o i e3 : Expr} {es : List Expr} {pos p p' p2 : Pos} {st : Stmt} {sts ss1 ss2 : List Stmt} {fa fb fc : Env → MH → Res D} {fs : Env → MH → Res (List D)} {x : Str} {k : Nat}
theorem upd_back {H : Hp} {a : Addr} {o : HO} (h : H a = none) : del (upd H a o) a = H := by
  funext b
  unfold del
  by_cases q : b = a
  · rw [if_pos q, q, h]
  · rw [if_neg q, upd_ne q]
theorem s_raise {P : Pg} {xc : Xc} (hc : X.calm = true) (tk : Takes X W) (hx : P.xcs[k]? = some xc) (I : XIni X.K (xa k) xc.flds) (nd : xc.flds.Nodup) (hr : Room 2 X.A) (hg : Gl X x) (hm : X.mg x = some (.ref (xa k))) (hdb : (x == ("__debug__" : Str)) = false) (ha : PA X (e :: es) (tDs X.K W xa none none fs)) (hst : (e :: es).all noStar = true) :
    PS X (.Raise (some (.Call (.Name x p) (e :: es) [] p2)) none pos) (tS X.K W xa none none fun ρ M => (fs ρ M).sbind ρ fun ds M => match P.xcs[k]? with
      | some x => if x.flds.length = ds.length then .exn k (zipF x.flds ds) ρ M else .stuck
      | none => .stuck) := by
  rw [List.all_cons, Bool.and_eq_true] at hst
  obtain ⟨f, fd, N, h1, h2, F, hb⟩ := I.ok (P := X.prog) (w := X.w) (mg := X.mg) (base := X.base)
  refine PS.imp (L2.ps_raise hc tk (pmk_oex I.T h1 h2 F hr hb .nil passL hg hm ha hdb (star1 (noStar_ne hst.1)) (star_any hst.2))) fun D σ H q => tR.sseq q fun β ρ M ds vs H1 sr r1 h1 => ?_
  rw [hx] at h1
  dsimp only at h1
  by_cases hl : xc.flds.length = ds.length
  · rw [if_pos hl] at h1
    have hv : vs.length = ds.length := r1.length
    have few := I.few
    refine ⟨by omega, fun a ha => ⟨a, vs, by simp, by omega, upd_same, fun dx H' a1 a2 a3 a4 a5 => ⟨rfl, dx, _, a3, a4, ?_, ?_⟩⟩⟩
    · rw [upd_ne a2] at a1
      exact a1
    · have hn : H1 dx = none := by rw [upd_ne a2] at a1; exact a1
      have eH : upd (del H' a) dx (.xd (xc.flds.zip vs).reverse) = upd H1 dx (.xd (xc.flds.zip vs).reverse) := by
        funext b
        by_cases z : b = dx
        · rw [z, upd_same, upd_same]
        · rw [upd_ne z, upd_ne z]
          by_cases y : b = a
          · rw [y, del_same, ha]
          · rw [del_ne y, a5 b y z, upd_ne y]
      rw [eH]
      have ex : Ext β M.length H1 β M.length (upd H1 dx (.xd (xc.flds.zip vs).reverse)) := Ext.fresh hn
      have hp := sr.heap.fresh (o := .xd (xc.flds.zip vs).reverse) hn
      exact h1 β _ σ dx _ ex (sr.mono ex hp) upd_same fun g d q => zip_lookup nd hl (Reps.mono sr.heap ex r1) q
  · rw [if_neg hl] at h1
    exact h1.elim
/-! ### the handled exception -/
/-- the suite's context -/
structure HotX (X : Cx) (cls : Addr) (h : Hx) : Prop where
  is : ∃ (Y : Cx) (oe : Obj) (pn : List (Addr × Obj)), X = Y.suite h.a ((h.a, oe) :: pn) ∧ Zc (.ref cls) (some h.dx) oe ∧ ∃ vs, oe.data = .fields vs
variable {h : Hx} {xk : Nat} {fl : Flds}
theorem pe_hot {i : Nat} {x : Str} (hi : h.i = some i) (hN : X.N[i]? = some x) (hv : Vis X.env.scope x) (hd : nm x = true) : PE X (.Name x p) (fun σ H Q => (∃ β ρ M, SR X.K (some h) (some (xk, fl)) H β M ρ σ) ∧ Q (.ref h.a) H) :=
  PE.imp (pe_var hN hv (nm_ok hd).1 (nm_ok hd).2) fun σ H Q ⟨⟨β, ρ, M, sr⟩, q⟩ => ⟨_, sr.hot.1 i hi, q⟩
theorem d_xat {i : Nat} {f : Str} (HX : HotX X (xa xk) h) (T : XfC X.K (xa xk)) (hno : PySem.W.findIn X.K (.ref (xa xk)) f = some none) (hi : h.i = some i) (hN : X.N[i]? = some x) (hv : Vis X.env.scope x) (hd : nm x = true) :
    PE X (.Attribute (.Name x p) f pos) (tD X.K W xa (some h) (some (xk, fl)) fun ρ M => ofO (fl.lookup f) M) := by
  obtain ⟨Y, oe, pn, rfl, hz, hf⟩ := HX.is
  refine PE.imp (pe_xf T hno hz hf (pe_hot (xk := xk) (fl := fl) hi hN hv hd) rfl) fun σ H Q ⟨β, ρ, M, sr, q⟩ => ⟨⟨β, ρ, M, sr⟩, rfl, rfl, ?_⟩
  dsimp only at q
  cases e1 : fl.lookup f with
  | none => rw [e1] at q; exact q.elim
  | some d =>
    rw [e1] at q
    obtain ⟨_, fvs, h2, h3⟩ := sr.hot
    obtain ⟨v, h4, h5⟩ := h3 f d e1
    exact ⟨h.dx, fvs, v, rfl, h2, h4, q.okR sr.heap h5⟩
/-- what a class says, so that isinstance of its instances can be told -/
structure XisC (K : PySem.W.Frag) (D : Addr) : Prop where
  cl : (PySem.W.clsIn K D).isSome = true
  ga : PySem.W.findIn K (.ref D) "__getattribute__" = some (some (.builtin "BaseException.__getattribute__"))
  gt : PySem.W.findIn K (.ref D) "__getattr__" = some none
  sb : PySem.W.subIn K (.ref D) (.type "BaseException") = some true
  cc : PySem.W.findIn K (.ref D) "__class__" = some (some (.builtin "object.__class__"))
  sp : PySem.W.specialIn K (.builtin "object.__class__") "__get__" = some (some (.builtin "getset_descriptor.__get__"))
  tk : PySem.W.takesIn K (.builtin "object.__class__") = some true
  mr : PySem.W.mroIn K D (.type "object") = some true
/-- isinstance(e, C), isinstance(e, (C, ..)), e the handled exception -/
def rIsX (K : PySem.W.Frag) (D a : Addr) : List V → Hp → VK → Prop := fun xs H Q => ∃ (js : List Addr) (c : V) (b : Bool), xs = [.ref a, c] ∧ PySem.W.kitAny K (.ref D) (js.map Value.ref) = some b ∧ (c = V.ref (js.headD 0) ∧ js.length = 1 ∨ ∃ q, c = .ref q ∧ H q = some (.tup (js.map V.ref))) ∧ Q (.bl b) H
theorem call_isX {Y : Cx} {a D dx : Addr} {oe : Obj} {pn : List (Addr × Obj)} (C : XisC Y.K D) (hz : Zc (.ref D) (some dx) oe) (hf : ∃ vs, oe.data = .fields vs) :
    ∀ (pins : List (Addr × Obj)) (s : Shared) (σ : L2.St) (H : Hp) (xs : List V) (us : List Value) (Q : VK), Inv (Y.suite a ((a, oe) :: pn)) pins σ H s → Vals xs us → (rIsX Y.K D a xs H Q ∧ ∃ fs, H dx = some (.xd fs)) →
      wpAny (model Y.prog Y.w) (Y.suite a ((a, oe) :: pn)).A (call (.builtin "isinstance") us) (EP (Y.suite a ((a, oe) :: pn)) pins σ Q) (fun _ _ => False) s := by
  intro pins s σ H xs us Q I r h
  obtain ⟨⟨js, c, b, rfl, e, hc, q⟩, fs, hd⟩ := h
  obtain ⟨u1, u2, rfl, r1, r2⟩ := vals2 r
  cases (show u1 = Value.ref a from r1)
  obtain ⟨hget, _⟩ := I.pin (a, oe) (List.mem_append.mpr (.inl List.mem_cons_self))
  obtain ⟨vs, hv⟩ := hf
  have hx : ObjOk Y.prog Y.w H s.heap dx (.xd fs) := I.hok dx _ hd
  obtain ⟨mA, hns, hr⟩ := hx
  obtain ⟨od, ho, hl⟩ := lookIn_ns hns
  have J : PySem.W.InstAt s.heap a oe D (some od) := ⟨hget, hz.1, by unfold PySem.W.notCls; rw [hv] <;> rfl, by rw [hz.2]; exact ho⟩
  have Z := PySem.W.kitx_exc (x := a) (ox := oe) (od := some od) C.cl C.ga C.gt C.sb C.cc C.sp C.tk C.mr
  rcases hc with ⟨ec, h1⟩ | ⟨tp, ec, hT⟩
  · subst ec
    cases (show u2 = Value.ref (js.headD 0) from r2)
    match js, h1 with
    | [j], _ =>
      have e2 : PySem.W.kitOne Y.K (.ref D) (.ref j) = some b := by
        have e3 : PySem.W.kitAny Y.K (.ref D) [Value.ref j] = some b := e
        unfold PySem.W.kitAny at e3
        cases q : PySem.W.kitOne Y.K (.ref D) (.ref j) with
        | none => rw [q] at e3; cases e3
        | some v =>
          rw [q] at e3
          cases v with
          | true => exact e3
          | false => exact e3
      exact PySem.W.kia_one Z I.kIn J e2 (fun z => nomatch z) fun tk => ⟨.bl b, H, I.kept (t' := tk) fun _ _ z => z, rfl, q⟩
  · subst ec
    cases (show u2 = Value.ref tp from r2)
    obtain ⟨_, its, rv, o, h1, h2, n, h3⟩ := (show ObjOk Y.prog Y.w H s.heap tp (.tup (js.map V.ref)) from I.hok tp _ hT)
    have e3 : its = js.map Value.ref := by
      clear h1 h3 e hT q r r2
      have key : ∀ (l : List Addr) (its : List Value), Vals (l.map V.ref) its → its = l.map Value.ref := by
        intro l
        induction l with
        | nil =>
          intro its rv
          cases rv
          rfl
        | cons j l ih =>
          intro its rv
          cases rv with
          | cons ra rb =>
            rw [List.map_cons, ih _ rb]
            rw [show _ = Value.ref j from ra]
      exact key js its rv
    subst e3
    obtain ⟨oc, od2, dt, sl⟩ := o
    simp only at h2 h3
    subst h2 h3
    exact PySem.W.kia_tup Z I.kIn J h1 e (fun z => nomatch z) fun tk => ⟨.bl b, H, I.tok tk, rfl, q⟩
/-- what the text says of all its exception classes -/
structure XTab (K : PySem.W.Frag) (xa : Nat → Addr) (P : Pg) : Prop where
  le : P.live ≤ P.xcs.length
  exm : ∀ k x j, P.xcs[k]? = some x → k < P.live → j < P.xcs.length → PySem.W.exmOne K (.ref (xa k)) (.ref (xa j)) = some (decide (j ∈ x.up))
  kit : ∀ k x j, P.xcs[k]? = some x → k < P.live → j < P.xcs.length → PySem.W.kitOne K (.ref (xa k)) (.ref (xa j)) = some (decide (j ∈ x.up))
  isc : ∀ k, k < P.live → XisC K (xa k)
  xf : ∀ k, k < P.live → XfC K (xa k)
theorem kit_any {K : PySem.W.Frag} {P : Pg} {xc : Xc} (T : XTab K xa P) (hx : P.xcs[xk]? = some xc) (hk : xk < P.live) : ∀ {cs : List Nat}, (∀ j ∈ cs, j < P.xcs.length) → PySem.W.kitAny K (.ref (xa xk)) ((cs.map xa).map Value.ref) = some (cs.any fun j => decide (j ∈ xc.up))
  | [], _ => rfl
  | j :: cs, h => by
    refine kitAny_cons (T.kit xk xc j hx hk (h j List.mem_cons_self)) (fun e => ?_) fun e => ?_
    · rw [List.any_cons, e, Bool.false_or]
      exact kit_any T hx hk fun j hj => h j (List.mem_cons_of_mem _ hj)
    · rw [List.any_cons, e, Bool.true_or]
theorem d_xis1 {P : Pg} {i j : Nat} {y : Str} (T : XTab X.K xa P) (HX : HotX X (xa xk) h) (hxk : xk < P.live) (hi : h.i = some i) (hN : X.N[i]? = some x) (hv : Vis X.env.scope x) (hd : nm x = true) (hj : j < P.xcs.length) (hg : Gl X "isinstance") (hm : X.mg "isinstance" = none) (hgy : Gl X y) (hmy : X.mg y = some (.ref (xa j))) (hdy : nm y = true) :
    PE X (.Call (.Name "isinstance" p) [.Name x p', .Name y p2] [] pos) (tD X.K W xa (some h) (some (xk, fl)) fun ρ M => match P.xcs[xk]? with
      | some z => .ok (.bl ([j].any fun j => decide (j ∈ z.up))) M
      | none => .stuck) := by
  obtain ⟨Y, oe, pn, rfl, hz, hf⟩ := HX.is
  have hc : CallR (Y.suite h.a ((h.a, oe) :: pn)) (.builtin "isinstance") (fun xs H Q => rIsX Y.K (xa xk) h.a xs H Q ∧ ∃ fs, H h.dx = some (.xd fs)) := call_isX (T.isc xk hxk) hz hf
  refine PE.imp (pe_callB hc hg hm PyProof.Rows.boot_isinstance (pa_cons (pe_hot (xk := xk) (fl := fl) hi hN hv hd) (pa_cons (pe_glob (v := .ref (xa j)) hgy hmy rfl (nm_ok hdy).1) pa_nil rfl) rfl) (by decide +kernel) (by decide +kernel) rfl rfl) fun σ H Q ⟨β, ρ, M, sr, q⟩ => ⟨⟨β, ρ, M, sr⟩, ?_⟩
  obtain ⟨_, fvs, h2, h3⟩ := sr.hot
  rw [List.getElem?_eq_getElem (Nat.lt_of_lt_of_le hxk T.le)] at q
  exact ⟨⟨[xa j], .ref (xa j), _, rfl, kit_any T (List.getElem?_eq_getElem (Nat.lt_of_lt_of_le hxk T.le)) hxk (cs := [j]) (fun j' hj' => by rw [List.mem_singleton.mp hj']; exact hj), .inl ⟨rfl, rfl⟩, q.okR sr.heap (show RD Y.K H β M.length (D.bl _) (V.bl _) from rfl)⟩, fvs, h2⟩
theorem d_clsx : ∀ {js : List Nat} {ns : List Expr}, ns.length = js.length → (∀ (i : Nat) (j : Nat) (n : Expr), js[i]? = some j → ns[i]? = some n → ∃ y p, n = .Name y p ∧ Gl X y ∧ X.mg y = some (.ref (xa j)) ∧ nm y = true) → PA X ns (fun σ H Q => Q ((js.map xa).map V.ref) H)
  | [], [], _, _ => pa_nil
  | j :: js, n :: ns, hl, hn => by
    obtain ⟨y, p, rfl, h1, h2, h3⟩ := hn 0 j n rfl rfl
    exact pa_cons (pe_glob (v := .ref (xa j)) h1 h2 rfl (nm_ok h3).1) (d_clsx (by simpa using hl) fun i k' n' a b => hn (i + 1) k' n' (by simpa using a) (by simpa using b)) rfl
  | [], _ :: _, hl, _ => by cases hl
  | _ :: _, [], hl, _ => by cases hl
theorem d_xisN {P : Pg} {i k0 : Nat} {cs : List Nat} {ns : List Expr} {tp : Pos} (T : XTab X.K xa P) (HX : HotX X (xa xk) h) (hxk : xk < P.live) (hi : h.i = some i) (hN : X.N[i]? = some x) (hv : Vis X.env.scope x) (hd : nm x = true) (hj : ∀ j ∈ cs, j < P.xcs.length) (hg : Gl X "isinstance") (hm : X.mg "isinstance" = none)
    (hl : ns.length = cs.length) (hn : ∀ (i : Nat) (j : Nat) (n : Expr), cs[i]? = some j → ns[i]? = some n → ∃ y p, n = .Name y p ∧ Gl X y ∧ X.mg y = some (.ref (xa j)) ∧ nm y = true) (hz1 : cs.length < 1000) :
    PE X (.Call (.Name "isinstance" p) [.Name x p', .Tuple ns k0 tp] [] pos) (tD X.K W xa (some h) (some (xk, fl)) fun ρ M => match P.xcs[xk]? with
      | some z => .ok (.bl (cs.any fun j => decide (j ∈ z.up))) M
      | none => .stuck) := by
  have ha := d_clsx (X := X) (xa := xa) hl hn
  obtain ⟨Y, oe, pn, rfl, hz, hf⟩ := HX.is
  have hc : CallR (Y.suite h.a ((h.a, oe) :: pn)) (.builtin "isinstance") (fun xs H Q => rIsX Y.K (xa xk) h.a xs H Q ∧ ∃ fs, H h.dx = some (.xd fs)) := call_isX (T.isc xk hxk) hz hf
  refine PE.imp (pe_callB hc hg hm PyProof.Rows.boot_isinstance (pa_cons (pe_hot (xk := xk) (fl := fl) hi hN hv hd) (pa_cons (pe_tup ha) pa_nil rfl) rfl) (by decide +kernel) (by decide +kernel) rfl rfl) fun σ H Q ⟨β, ρ, M, sr, q⟩ => ⟨⟨β, ρ, M, sr⟩, ?_⟩
  obtain ⟨_, fvs, h2, h3⟩ := sr.hot
  rw [List.getElem?_eq_getElem (Nat.lt_of_lt_of_le hxk T.le)] at q
  refine ⟨by rw [List.length_map, List.length_map, lim_eq]; exact Nat.le_trans (Nat.le_of_lt hz1) (by decide), fun tq htq => ?_⟩
  refine ⟨⟨cs.map xa, .ref tq, _, rfl, kit_any T (List.getElem?_eq_getElem (Nat.lt_of_lt_of_le hxk T.le)) hxk hj, .inr ⟨tq, rfl, upd_same⟩, ?_⟩, fvs, ?_⟩
  · have e1 : Ext β M.length H β M.length (upd H tq (.tup ((cs.map xa).map V.ref))) := Ext.fresh htq
    exact q β _ (.bl _) e1 (sr.heap.fresh htq) rfl
  · rw [upd_ne (ne_of_none h2 htq)]
    exact h2
/-! ### try -/
theorem EnvR.gone {K : PySem.W.Frag} {H : Hp} {β : Bt} {N : Nat} {ρ : Env} {σ : L2.St} (r : EnvR K H β N ρ σ) (i : Nat) (u : Option V) : EnvR K H β N (ρ.set i none) (σ.set i u) := by
  refine ⟨by rw [List.length_set, List.length_set]; exact r.len, fun j d q => ?_⟩
  by_cases hij : i = j
  · subst hij
    by_cases hl : i < ρ.length
    · rw [List.getElem?_set_self hl] at q
      cases q
    · rw [List.getElem?_eq_none (by rw [List.length_set]; omega)] at q
      cases q
  · rw [List.getElem?_set_ne hij] at q
    obtain ⟨v, q1, q2⟩ := r.val j d q
    exact ⟨v, by rw [List.getElem?_set_ne hij]; exact q1, q2⟩
/-- the suite's end -/
theorem PostS.hot {K : PySem.W.Frag} {hx : Hx} {xk : Nat} {fl : Flds} {H : Hp} {β : Bt} {N : Nat} {D : Ends} {r : SRes} {W' : WX} {i : Nat} (q : PostS K W xa none none H β N (r.map (gone (some i))) D) :
    PostS K W' xa (some hx) (some (xk, fl)) H β N r { nx := fun σ' H' => D.nx (σ'.set i none) H', rt := D.rt, bk := fun σ' H' => D.bk (σ'.set i none) H', ct := fun σ' H' => D.ct (σ'.set i none) H' } := by
  cases r with
  | nx ρ M => exact fun β' H' σ' e s => q β' H' _ e ⟨s.env.gone i none, s.heap, trivial⟩
  | bk ρ M => exact fun β' H' σ' e s => q β' H' _ e ⟨s.env.gone i none, s.heap, trivial⟩
  | ct ρ M => exact fun β' H' σ' e s => q β' H' _ e ⟨s.env.gone i none, s.heap, trivial⟩
  | rt d M => exact q
  | exn c fs ρ M => exact q.elim
  | stuck => exact q.elim
theorem PostS.hot0 {K : PySem.W.Frag} {hx : Hx} {xk : Nat} {fl : Flds} {H : Hp} {β : Bt} {N : Nat} {D : Ends} {r : SRes} {W' : WX} (q : PostS K W xa none none H β N (r.map (gone none)) D) : PostS K W' xa (some hx) (some (xk, fl)) H β N r D := by
  cases r with
  | nx ρ M => exact fun β' H' σ' e s => q β' H' _ e ⟨s.env, s.heap, trivial⟩
  | bk ρ M => exact fun β' H' σ' e s => q β' H' _ e ⟨s.env, s.heap, trivial⟩
  | ct ρ M => exact fun β' H' σ' e s => q β' H' _ e ⟨s.env, s.heap, trivial⟩
  | rt d M => exact q
  | exn c fs ρ M => exact q.elim
  | stuck => exact q.elim
/-- the suite's reading -/
def tSu (K : PySem.W.Frag) (xa : Nat → Addr) (P : Pg) (n : Option Nat) (g : Nat → Flds → Env → MH → SRes) : Addr → Value → Option Addr → TS := fun a cls d D σ H =>
  ∃ (k : Nat) (fl : Flds) (dx : Addr), k < P.live ∧ cls = .ref (xa k) ∧ d = some dx ∧ tS K WF xa (some ⟨n, a, dx⟩) (some (k, fl)) (g k fl) D σ H
theorem pss_su {P : Pg} {n : Option Nat} {g : Nat → Flds → Env → MH → SRes} {suite : List Stmt}
    (hsu : ∀ (k : Nat) (fl : Flds) (h : Hx) (oe : Obj) (pn : List (Addr × Obj)), k < P.live → h.i = n → HotX (X.suite h.a ((h.a, oe) :: pn)) (xa k) h → PSs (X.suite h.a ((h.a, oe) :: pn)) suite (tS X.K WF xa (some h) (some (k, fl)) (g k fl))) (a : Addr) (oe : Obj) (cls : Value) (d : Option Addr) (pn : List (Addr × Obj)) (hz : Zc cls d oe) (hf : ∃ vs, oe.data = .fields vs) :
    PSs (X.suite a ((a, oe) :: pn)) suite (tSu X.K xa P n g a cls d) := by
  refine ⟨fun pins s σ H D I ⟨k, fl, dx, hk, e1, e2, q⟩ => ?_⟩
  subst e1 e2
  exact (hsu k fl ⟨n, a, dx⟩ oe pn hk rfl ⟨X, oe, pn, rfl, hz, hf⟩).run pins s σ H D I q
theorem s_try1 {P : Pg} {body : List Stmt} {b₀ : Stmt} {suite : List Stmt} {np : Pos} {y n : Str} {i j : Nat} {gb : Env → MH → SRes} {g : Nat → Flds → Env → MH → SRes} (T : XTab X.K xa P) (hs : X.stack = X.env :: X.outer) (hf : X.env.frame = some X.env.locals) (hN : X.N.Nodup) (hi : X.N[i]? = some n) (hln : X.env.kindOf n = some .local) (hgy : Gl X y) (hmy : X.mg y = some (.ref (xa j))) (hdy : nm y = true) (hj : j < P.xcs.length) (tk : Takes X W)
    (hb : ∀ (W : WX) (pn : List (Addr × Obj)) (xe : Value → Shared → Prop), Takes (X.tr pn xe) W → PassesOwn (model X.prog X.w) X.A X.env xe → PSs (X.tr pn xe) body (tS X.K W xa none none gb))
    (hsu : ∀ (k : Nat) (fl : Flds) (h : Hx) (oe : Obj) (pn : List (Addr × Obj)), k < P.live → h.i = some i → HotX (X.suite h.a ((h.a, oe) :: pn)) (xa k) h → PSs (X.suite h.a ((h.a, oe) :: pn)) (b₀ :: suite) (tS X.K WF xa (some h) (some (k, fl)) (g k fl))) :
    PS X (.Try body [.ExceptHandler (some (.Name y np)) (some n) (b₀ :: suite) p'] [] [] pos) (tS X.K W xa none none fun ρ M => match gb ρ M with
      | .exn k fs ρ M => if k < P.live then match P.xcs[k]? with
        | some x => if j ∈ x.up then (if slotIn (some i) ρ then (g k fs (gone (some i) ρ) M).map (gone (some i)) else .stuck) else .exn k fs ρ M
        | none => .stuck
        else .stuck
      | r => r) := by
  refine PS.imp (L2.ps_try_as (i := i) hs hf hN hi hln ⟨hgy, (nm_ok hdy).1, .inl hmy⟩ tk hb (pss_su (P := P) (n := some i) hsu)) fun D σ H ⟨β, ρ, M, sr, q⟩ => ⟨β, ρ, M, sr, ?_⟩
  dsimp only at q
  cases e : gb ρ M with
  | nx ρ' M' => rw [e] at q; exact q
  | bk ρ' M' => rw [e] at q; exact q
  | ct ρ' M' => rw [e] at q; exact q
  | rt d M' => rw [e] at q; exact q
  | stuck => rw [e] at q; exact q
  | exn k fs ρ' M' =>
    rw [e] at q
    dsimp only at q
    by_cases hk : k < P.live
    case neg => rw [if_neg hk] at q; exact q.elim
    rw [if_pos hk] at q
    cases ex : P.xcs[k]? with
    | none => rw [ex] at q; exact q.elim
    | some xc =>
      rw [ex] at q
      intro β' H' σ' dx fvs e1 s1 hdx hfl
      refine ⟨decide (j ∈ xc.up), T.exm k xc j ex hk hj, fun hy a ha => ?_, fun hn => ?_⟩
      · have hy := of_decide_eq_true hy
        dsimp only at q
        rw [if_pos hy] at q
        by_cases hsl : slotIn (some i) ρ' = true
        case neg => rw [if_neg hsl] at q; exact q.elim
        rw [if_pos hsl] at q
        refine ⟨k, fs, dx, hk, rfl, rfl, β', ρ'.set i none, M', ⟨s1.env.gone i _, s1.heap, ?_⟩, PostS.hot (PostS.ext q e1)⟩
        refine ⟨fun i' hi' => ?_, fvs, hdx, hfl⟩
        cases hi'
        exact List.getElem?_set_self (by rw [s1.env.len]; exact of_decide_eq_true hsl)
      · have hn := of_decide_eq_false hn
        dsimp only at q
        rw [if_neg hn] at q
        exact q β' H' σ' dx fvs e1 s1 hdx hfl
theorem s_tryN_read {P : Pg} {gb : Env → MH → SRes} {hs : List (Nat × Option Nat × List S)} {G : List S → Nat → Flds → Env → MH → SRes} (T : XTab X.K xa P) (hn : ∀ p ∈ hs, p.2.1 = none ∧ p.1 < P.xcs.length) {D : Ends} {k : Nat} {xc : Xc} (ex : P.xcs[k]? = some xc) (hk : k < P.live) {fs : Flds} {ρ : Env} {M : MH} {H : Hp} {β : Bt} {N0 : Nat}
    (q : PostS X.K W xa none none H β N0 (match clause P k hs with
      | some (n, b) => if slotIn n ρ then (G b k fs (gone n ρ) M).map (gone n) else .stuck
      | none => .exn k fs ρ M) D) :
    ∀ β' H' σ' dx fvs, Ext β N0 H β' M.length H' → SR X.K none none H' β' M ρ σ' → H' dx = some (.xd fvs) → (∀ f d, fs.lookup f = some d → ∃ v, fvs.lookup f = some v ∧ Rep X.K H' β' M.length d v) →
      wMany X.K W D (hs.map fun p => (.ref (xa p.1), tSu X.K xa P none (G p.2.2))) (.ref (xa k)) (some dx) σ' H' := by
  induction hs with
  | nil => exact fun β' H' σ' dx fvs e1 s1 hdx hfl => q β' H' σ' dx fvs e1 s1 hdx hfl
  | cons p hs ih =>
    obtain ⟨j, n, b⟩ := p
    obtain ⟨e0, hj⟩ := hn (j, n, b) List.mem_cons_self
    have e0 : n = none := e0
    subst e0
    unfold clause at q
    rw [ex] at q
    intro β' H' σ' dx fvs e1 s1 hdx hfl
    refine ⟨decide (j ∈ xc.up), T.exm k xc j ex hk hj, fun hy a ha => ?_, fun hno => ?_⟩
    · have hy := of_decide_eq_true hy
      dsimp only at q
      rw [if_pos hy] at q
      have q : PostS X.K W xa none none H β N0 ((G b k fs ρ M).map (gone none)) D := q
      exact ⟨k, fs, dx, hk, rfl, rfl, β', ρ, M, ⟨s1.env, s1.heap, (fun i hi => by cases hi), fvs, hdx, hfl⟩, PostS.hot0 (PostS.ext q e1)⟩
    · have hno := of_decide_eq_false hno
      dsimp only at q
      rw [if_neg hno] at q
      exact ih (fun p hp => hn p (List.mem_cons_of_mem _ hp)) q β' H' σ' dx fvs e1 s1 hdx hfl
/-- the clauses of a try, all without a name -/
inductive ClsOk (X : Cx) (xa : Nat → Addr) (P : Pg) (G : List S → Nat → Flds → Env → MH → SRes) : List ExceptHandler → List (Nat × Option Nat × List S) → Prop
  | nil : ClsOk X xa P G [] []
  | cons {y : Str} {j : Nat} {b : List S} {b₀ : Stmt} {suite : List Stmt} {np p' : Pos} {hds : List ExceptHandler} {hs : List (Nat × Option Nat × List S)} (hgy : Gl X y) (hmy : X.mg y = some (.ref (xa j))) (hdy : nm y = true) (hj : j < P.xcs.length)
      (hsu : ∀ (k : Nat) (fl : Flds) (h : Hx) (oe : Obj) (pn : List (Addr × Obj)), k < P.live → h.i = none → HotX (X.suite h.a ((h.a, oe) :: pn)) (xa k) h → PSs (X.suite h.a ((h.a, oe) :: pn)) (b₀ :: suite) (tS X.K WF xa (some h) (some (k, fl)) (G b k fl))) (r : ClsOk X xa P G hds hs) :
      ClsOk X xa P G (.ExceptHandler (some (.Name y np)) none (b₀ :: suite) p' :: hds) ((j, none, b) :: hs)
theorem ClsOk.hds {P : Pg} {G : List S → Nat → Flds → Env → MH → SRes} {hds : List ExceptHandler} {hs : List (Nat × Option Nat × List S)} (c : ClsOk X xa P G hds hs) : HdsOk X hds (hs.map fun p => (.ref (xa p.1), tSu X.K xa P none (G p.2.2))) ∧ ∀ p ∈ hs, p.2.1 = none ∧ p.1 < P.xcs.length := by
  induction c with
  | nil => exact ⟨.nil, fun p hp => by cases hp⟩
  | cons hgy hmy hdy hj hsu r ih =>
    refine ⟨.cons ⟨hgy, (nm_ok hdy).1, .inl hmy⟩ (pss_su (P := P) (n := none) hsu) ih.1, fun p hp => ?_⟩
    rcases List.mem_cons.mp hp with rfl | hp
    · exact ⟨rfl, hj⟩
    · exact ih.2 p hp
theorem s_tryN {P : Pg} {body : List Stmt} {h₀ : ExceptHandler} {hds : List ExceptHandler} {gb : Env → MH → SRes} {hs : List (Nat × Option Nat × List S)} {G : List S → Nat → Flds → Env → MH → SRes} (T : XTab X.K xa P) (hst : X.stack = X.env :: X.outer) (hf : X.env.frame = some X.env.locals) (tk : Takes X W)
    (hb : ∀ (W : WX) (pn : List (Addr × Obj)) (xe : Value → Shared → Prop), Takes (X.tr pn xe) W → PassesOwn (model X.prog X.w) X.A X.env xe → PSs (X.tr pn xe) body (tS X.K W xa none none gb))
    (hh : ClsOk X xa P G (h₀ :: hds) hs) :
    PS X (.Try body (h₀ :: hds) [] [] pos) (tS X.K W xa none none fun ρ M => match gb ρ M with
      | .exn k fs ρ M => if k < P.live then match clause P k hs with
        | some (n, b) => if slotIn n ρ then (G b k fs (gone n ρ) M).map (gone n) else .stuck
        | none => .exn k fs ρ M
        else .stuck
      | r => r) := by
  obtain ⟨h1, h2⟩ := hh.hds
  refine PS.imp (L2.ps_try_many hst hf tk hb h1) fun D σ H ⟨β, ρ, M, sr, q⟩ => ⟨β, ρ, M, sr, ?_⟩
  dsimp only at q
  cases e : gb ρ M with
  | nx ρ' M' => rw [e] at q; exact q
  | bk ρ' M' => rw [e] at q; exact q
  | ct ρ' M' => rw [e] at q; exact q
  | rt d M' => rw [e] at q; exact q
  | stuck => rw [e] at q; exact q
  | exn k fs ρ' M' =>
    rw [e] at q
    dsimp only at q
    by_cases hk : k < P.live
    · rw [if_pos hk] at q
      exact s_tryN_read (gb := gb) (G := G) (ρ := ρ') (M := M') (fs := fs) T h2 (List.getElem?_eq_getElem (Nat.lt_of_lt_of_le hk T.le)) hk q
    · rw [if_neg hk] at q
      exact q.elim
end
end LX

set_option Elab.async false
set_option linter.all false
set_option maxRecDepth 100000
set_option maxHeartbeats 2000000
/-! LxMix: except clauses, some with a name, some without. -/
namespace LX
open PySem L2 PyProof.Rows
/-- how a named clause ends -/
def endN (D : Ends) : Option Nat → Ends
  | none => D
  | some i => { nx := fun σ H => D.nx (σ.set i none) H, rt := D.rt, bk := fun σ H => D.bk (σ.set i none) H, ct := fun σ H => D.ct (σ.set i none) H }
def inN (a : Addr) (σ : L2.St) : Option Nat → L2.St
  | none => σ
  | some i => σ.set i (some (.ref a))
abbrev CL1 := Value × Option Nat × (Addr → Value → Option Addr → TS)
/-- the clauses, one behind the other -/
def wMx (K : PySem.W.Frag) (Wo : WX) (D : Ends) : List CL1 → WX
  | [] => Wo
  | q :: r => fun cls d σ H => ∃ k, PySem.W.exmOne K cls q.1 = some k ∧ (k = true → ∀ a, H a = none → q.2.2 a cls d (endN D q.2.1) (inN a σ q.2.1) H) ∧ (k = false → wMx K Wo D r cls d σ H)
def SuOk (Y : Cx) (ss : List Stmt) (ts : Addr → Value → Option Addr → TS) : Prop := ∀ (a : Addr) (ob : Obj) (cls : Value) (d : Option Addr) (ps : List (Addr × Obj)), Zc cls d ob → (∃ us, ob.data = .fields us) → PSs (Y.suite a ((a, ob) :: ps)) ss (ts a cls d)
inductive MxOk (Y : Cx) : List ExceptHandler → List CL1 → Prop
  | nil : MxOk Y [] []
  | anon {y : Str} {c : Value} {ts : Addr → Value → Option Addr → TS} {s1 : Stmt} {ss : List Stmt} {p p' : Pos} {hs : List ExceptHandler} {l : List CL1} (hn : Names Y y c) (hu : SuOk Y (s1 :: ss) ts) (r : MxOk Y hs l) : MxOk Y (.ExceptHandler (some (.Name y p)) none (s1 :: ss) p' :: hs) ((c, none, ts) :: l)
  | named {y z : Str} {j : Nat} {c : Value} {ts : Addr → Value → Option Addr → TS} {s1 : Stmt} {ss : List Stmt} {p p' : Pos} {hs : List ExceptHandler} {l : List CL1} (hi : Y.N[j]? = some z) (hk : Y.env.kindOf z = some .local) (hn : Names Y y c) (hu : SuOk Y (s1 :: ss) ts) (r : MxOk Y hs l) : MxOk Y (.ExceptHandler (some (.Name y p)) (some z) (s1 :: ss) p' :: hs) ((c, some j, ts) :: l)
section
variable {Y : Cx} {bd : List Stmt} {h1 : ExceptHandler} {hs : List ExceptHandler} {l : List CL1} {pos : Pos} {tb : WX → TS} {Wo : WX}
theorem sp_flow {pins : List (Addr × Obj)} {D : Ends} {a : Addr} {q : Addr × Obj} {f : Flow} {t : Shared} (ok : Y.Ok) (z : SP (Y.suite a (q :: (Y.pn ++ pins))) [] D f t) : SP Y pins D f t := by
  cases f with
  | next => obtain ⟨x, G, J, w⟩ := z; exact ⟨x, G, J.unsuite ok, w⟩
  | brk => obtain ⟨x, G, J, w⟩ := z; exact ⟨x, G, J.unsuite ok, w⟩
  | cont => obtain ⟨x, G, J, w⟩ := z; exact ⟨x, G, J.unsuite ok, w⟩
  | ret u => obtain ⟨v, x, G, J, r, w⟩ := z; exact ⟨v, x, G, J.unsuite ok, r, w⟩
theorem ps_try_mix (ek : Y.stack = Y.env :: Y.outer) (ef : Y.env.frame = some Y.env.locals) (hN : Y.N.Nodup) (tk : Takes Y Wo)
    (hb : ∀ (W : WX) (ps : List (Addr × Obj)) (xe : Value → Shared → Prop), Takes (Y.tr ps xe) W → PassesOwn (model Y.prog Y.w) Y.A Y.env xe → PSs (Y.tr ps xe) bd (tb W))
    (hh : MxOk Y (h1 :: hs) l) : PS Y (.Try bd (h1 :: hs) [] [] pos) (fun D σ H => tb (wMx Y.K Wo D l) D σ H) := by
  refine ⟨fun pins s0 σ0 H0 D I0 h0 => ?_⟩
  have ok := I0.ok
  have efr : Y.A.frames = some (Y.env :: Y.outer) := ok.frames.trans (congrArg some ek)
  refine wpAny_Try_except (wpAny_mono ((hb (wMx Y.K Wo D l) (Y.pn ++ pins) (fun e t1 => wpAny (model Y.prog Y.w) Y.A (noteFrame e Y.env) (fun _ t2 => wpAny (model Y.prog Y.w) Y.A (setFlight e none) (fun _ t3 =>
    wpAny (model Y.prog Y.w) Y.A (handleBy e Y.env (h1 :: hs)) (SP Y pins D) Y.xe t3) Y.xe t2) Y.xe t1) (fun u t flies => ?_) PassesOwn.looking).run [] s0 σ0 H0 D (I0.toTry _) h0) (fun fl t ends => ?_) fun e t he => he)
  · obtain ⟨a, B, sB, pins2, σ, H, cls, d, rfl, Jt, nb, up, sky, fresh, os, ag, w⟩ := flies
    have J : Inv Y pins σ H sB := Jt.ofTry ok
    rw [show (Y.tr (Y.pn ++ pins) _).stack = Y.env :: Y.outer from ek] at sky
    show wpAny (model Y.prog Y.w) Y.A (noteFrame (.ref a) Y.env) _ _ _
    refine Sky.land Zc.steady efr ef sky fun g flg upg => ?_
    have Jg : Inv Y pins σ H { t with heap := g } := J.landed nb flg.1 (up.trans upg) os ag
    obtain ⟨ob, us, eo, zo, dd⟩ := flg.there
    have nin : a ∉ frs (Y.env :: Y.outer) := fun hm => by
      obtain ⟨_, o2, e2, hnf⟩ := flg.2.2.1.mem hm
      obtain rfl := Option.some.inj (eo.symm.trans e2)
      exact hnf _ dd
    have nL : a ≠ Y.env.locals := fun z => nin (List.mem_filterMap.mpr ⟨Y.env, List.mem_cons_self, ef.trans (congrArg some z.symm)⟩)
    have nF : a ∉ Y.fs := fun hm => by
      obtain ⟨en, me, q⟩ := List.mem_filterMap.mp hm
      exact nin (List.mem_filterMap.mpr ⟨en, List.mem_cons_of_mem _ me, q⟩)
    have Sg := Jg.suite eo dd fresh nL nF
    have LT : PySem.W.Looks (model Y.prog Y.w) g (typeOf (.ref a)) cls := fun A Q E t' k q => wpAny_typeOf_ref (k _ _ eo) (zo.1.symm ▸ q)
    have tst : ∀ {y : Str} {c : Value} {p : Pos} {Q E : Value → Shared → Prop}, Names Y y c → Q c { t with heap := g } → wpAny (model Y.prog Y.w) (Y.A.mark (some (.ref a))) (eval (.Name y p) Y.env) Q E { t with heap := g } := fun hn q => by
      rcases hn with ⟨gg, db, m1 | ⟨m1, bv, nn⟩⟩
      · exact ld_glob (X := Y.suite a ((a, ob) :: (Y.pn ++ pins))) Sg gg m1 q db
      · exact ld_blt (X := Y.suite a ((a, ob) :: (Y.pn ++ pins))) Sg gg m1 bv q nn db
    have walk : ∀ {hs' : List ExceptHandler} {l' : List CL1}, MxOk Y hs' l' → wMx Y.K Wo D l' cls d σ H → wpAny (model Y.prog Y.w) Y.A (handleBy (.ref a) Y.env hs') (SP Y pins D) Y.xe { t with heap := g } := by
      intro hs' l' ok'
      induction ok' with
      | nil =>
        intro w
        refine wpAny_handleBy_nil ?_
        obtain ⟨z1, z2, z3, o9, v9, T9, p9, t9, e9, f9, d9, n9, r9⟩ := id flg
        unfold PySem.passOn
        refine wpAny_bind (wpAny_field e9 d9 n9 ?_)
        rw [if_neg (show ¬ ((Value.ref T9 == Value.none) = true) from by simp)]
        have last : wpAny (model Y.prog Y.w) Y.A (setFlight (.ref a) Y.env.frame) (fun _ t4 => wpAny (model Y.prog Y.w) Y.A (throw (.ref a) : Sem Flow) (SP Y pins D) Y.xe t4) Y.xe { t with heap := g } := by
          rw [ef]
          exact HandSPX.setFlight_upZ flg fun g4 l4 u4 => wpAny_throw (tk _ _ ⟨a, B, sB, pins, σ, H, cls, d, rfl, J, nb, (up.trans upg).trans u4, .inr (.inr (ek.symm ▸ l4)), fresh, os, ag, w⟩)
        first
          | exact wpAny_bind (wpAny_pure (wpAny_bind last))
          | exact wpAny_bind last
      | anon hn hu r ih =>
        intro w
        obtain ⟨k, ek1, yes, no⟩ := w
        refine wpAny_handleBy_cons (codeAny_handlers_test (tst hn ((PySem.W.exm_one (M := model Y.prog Y.w) Jg.kIn LT ek1).here ?_))) (fun q => nomatch q)
        cases k with
        | false => exact ih (no rfl)
        | true =>
          refine codeAny_handlers_suite (HandSPX.lands_againZ flg fun g4 l4 u4 => ?_)
          obtain ⟨o4, v4, e4, z4, d4⟩ := l4.there
          have S4 := (J.landed nb l4.1 ((up.trans upg).trans u4) os ag : Inv Y pins σ H { t with heap := g4 }).suite e4 d4 fresh nL nF
          exact wpAny_mono ((hu a o4 cls d (Y.pn ++ pins) z4 ⟨_, d4⟩).run [] _ _ H _ S4 (yes rfl a fresh)) (fun f t6 z => sp_flow ok z) fun _ _ z => z.elim
      | named hi hk hn hu r ih =>
        intro w
        obtain ⟨k, ek1, yes, no⟩ := w
        refine wpAny_handleBy_cons (codeAny_handlers_test (tst hn ((PySem.W.exm_one (M := model Y.prog Y.w) Jg.kIn LT ek1).here ?_))) (fun q => nomatch q)
        cases k with
        | false => exact ih (no rfl)
        | true =>
          refine codeAny_handlers_suite_as (HandSPX.lands_againZ flg fun g4 l4 u4 => ?_)
          obtain ⟨o4, v4, e4, z4, d4⟩ := l4.there
          have S4 := (J.landed nb l4.1 ((up.trans upg).trans u4) os ag : Inv Y pins σ H { t with heap := g4 }).suite e4 d4 fresh nL nF
          refine store_ok (X := Y.suite a ((a, o4) :: (Y.pn ++ pins))) (v := .ref a) S4 hN hi (.inl hk) rfl (fun t5 S5 => ?_) (.inr hk)
          refine wpAny_mono ((hu a o4 cls d (Y.pn ++ pins) z4 ⟨_, d4⟩).run [] t5 _ H _ S5 (yes rfl a fresh)) (fun f t6 z => ?_) fun _ _ z => z.elim
          cases f with
          | next => obtain ⟨x, G, S6, q6⟩ := z; exact gone_ok (S6.unsuite ok) hN hi hk fun t7 J7 => ⟨_, _, J7, q6⟩
          | brk => obtain ⟨x, G, S6, q6⟩ := z; exact gone_ok (S6.unsuite ok) hN hi hk fun t7 J7 => ⟨_, _, J7, q6⟩
          | cont => obtain ⟨x, G, S6, q6⟩ := z; exact gone_ok (S6.unsuite ok) hN hi hk fun t7 J7 => ⟨_, _, J7, q6⟩
          | ret u => obtain ⟨v, x, G, S6, r6, q6⟩ := z; exact gone_ok (S6.unsuite ok) hN hi hk fun t7 J7 => ⟨_, _, _, J7, r6, q6⟩
    exact walk hh w
  · cases fl with
    | next => obtain ⟨x, G, J, q⟩ := ends; exact wpAny_execs_nil ⟨x, G, J.ofTry ok, q⟩
    | brk => obtain ⟨x, G, J, q⟩ := ends; exact ⟨x, G, J.ofTry ok, q⟩
    | cont => obtain ⟨x, G, J, q⟩ := ends; exact ⟨x, G, J.ofTry ok, q⟩
    | ret u => obtain ⟨v, x, G, J, r, q⟩ := ends; exact ⟨v, x, G, J.ofTry ok, r, q⟩
end
section
variable {X : Cx} {W : WX} {xa : Nat → Addr} {p p' pos np : Pos} {x : Str}
/-- the clauses of a try, by the IR -/
inductive ClOk (X : Cx) (xa : Nat → Addr) (P : Pg) (G : List S → Nat → Flds → Env → MH → SRes) : List ExceptHandler → List (Nat × Option Nat × List S) → Prop
  | nil : ClOk X xa P G [] []
  | cons {y : Str} {j : Nat} {zn : Option Str} {o : Option Nat} {b : List S} {s1 : Stmt} {ss : List Stmt} {np p' : Pos} {hds : List ExceptHandler} {hs : List (Nat × Option Nat × List S)} (hz : (zn = none ∧ o = none) ∨ ∃ z i, zn = some z ∧ o = some i ∧ X.N[i]? = some z ∧ X.env.kindOf z = some .local) (hgy : Gl X y) (hmy : X.mg y = some (.ref (xa j))) (hdy : nm y = true) (hj : j < P.xcs.length)
      (hsu : ∀ (k : Nat) (fl : Flds) (h : Hx) (oe : Obj) (pn : List (Addr × Obj)), k < P.live → h.i = o → HotX (X.suite h.a ((h.a, oe) :: pn)) (xa k) h → PSs (X.suite h.a ((h.a, oe) :: pn)) (s1 :: ss) (tS X.K WF xa (some h) (some (k, fl)) (G b k fl))) (r : ClOk X xa P G hds hs) :
      ClOk X xa P G (.ExceptHandler (some (.Name y np)) zn (s1 :: ss) p' :: hds) ((j, o, b) :: hs)
theorem ClOk.mx {P : Pg} {G : List S → Nat → Flds → Env → MH → SRes} {hds : List ExceptHandler} {hs : List (Nat × Option Nat × List S)} (c : ClOk X xa P G hds hs) : MxOk X hds (hs.map fun p => (.ref (xa p.1), p.2.1, tSu X.K xa P p.2.1 (G p.2.2))) ∧ ∀ p ∈ hs, p.1 < P.xcs.length ∧ ∀ i, p.2.1 = some i → ∃ z, X.N[i]? = some z := by
  induction c with
  | nil => exact ⟨.nil, fun p hp => by cases hp⟩
  | cons hz hgy hmy hdy hj hsu r ih =>
    rcases hz with ⟨rfl, rfl⟩ | ⟨z, i, rfl, rfl, hi, hk⟩
    · refine ⟨.anon ⟨hgy, (nm_ok hdy).1, .inl hmy⟩ (pss_su (P := P) (n := none) hsu) ih.1, fun p hp => ?_⟩
      rcases List.mem_cons.mp hp with rfl | hp
      · exact ⟨hj, fun i e => by cases e⟩
      · exact ih.2 p hp
    · refine ⟨.named hi hk ⟨hgy, (nm_ok hdy).1, .inl hmy⟩ (pss_su (P := P) (n := some i) hsu) ih.1, fun p hp => ?_⟩
      rcases List.mem_cons.mp hp with rfl | hp
      · exact ⟨hj, fun i' e => by cases e; exact ⟨z, hi⟩⟩
      · exact ih.2 p hp
theorem s_tryM_read {P : Pg} {hs : List (Nat × Option Nat × List S)} {G : List S → Nat → Flds → Env → MH → SRes} (T : XTab X.K xa P) (hn : ∀ p ∈ hs, p.1 < P.xcs.length) {D : Ends} {k : Nat} {xc : Xc} (ex : P.xcs[k]? = some xc) (hk : k < P.live) {fs : Flds} {ρ : Env} {M : MH} {H : Hp} {β : Bt} {N0 : Nat}
    (q : PostS X.K W xa none none H β N0 (match clause P k hs with
      | some (n, b) => if slotIn n ρ then (G b k fs (gone n ρ) M).map (gone n) else .stuck
      | none => .exn k fs ρ M) D) :
    ∀ β' H' σ' dx fvs, Ext β N0 H β' M.length H' → SR X.K none none H' β' M ρ σ' → H' dx = some (.xd fvs) → (∀ f d, fs.lookup f = some d → ∃ v, fvs.lookup f = some v ∧ Rep X.K H' β' M.length d v) →
      wMx X.K W D (hs.map fun p => (.ref (xa p.1), p.2.1, tSu X.K xa P p.2.1 (G p.2.2))) (.ref (xa k)) (some dx) σ' H' := by
  induction hs with
  | nil => exact fun β' H' σ' dx fvs e1 s1 hdx hfl => q β' H' σ' dx fvs e1 s1 hdx hfl
  | cons p hs ih =>
    obtain ⟨j, n, b⟩ := p
    have hj : j < P.xcs.length := hn (j, n, b) List.mem_cons_self
    unfold clause at q
    rw [ex] at q
    intro β' H' σ' dx fvs e1 s1 hdx hfl
    refine ⟨decide (j ∈ xc.up), T.exm k xc j ex hk hj, fun hy a ha => ?_, fun hno => ?_⟩
    · have hy := of_decide_eq_true hy
      dsimp only at q
      rw [if_pos hy] at q
      dsimp only at q
      by_cases hsl : slotIn n ρ = true
      case neg => rw [if_neg hsl] at q; exact q.elim
      rw [if_pos hsl] at q
      cases n with
      | none => exact ⟨k, fs, dx, hk, rfl, rfl, β', ρ, M, ⟨s1.env, s1.heap, (fun i hi => by cases hi), fvs, hdx, hfl⟩, PostS.hot0 (PostS.ext q e1)⟩
      | some i =>
        refine ⟨k, fs, dx, hk, rfl, rfl, β', ρ.set i none, M, ⟨s1.env.gone i _, s1.heap, ?_⟩, PostS.hot (PostS.ext q e1)⟩
        refine ⟨fun i' hi' => ?_, fvs, hdx, hfl⟩
        cases hi'
        exact List.getElem?_set_self (by rw [s1.env.len]; exact of_decide_eq_true hsl)
    · have hno := of_decide_eq_false hno
      dsimp only at q
      rw [if_neg hno] at q
      exact ih (fun p hp => hn p (List.mem_cons_of_mem _ hp)) q β' H' σ' dx fvs e1 s1 hdx hfl
theorem s_tryM {P : Pg} {body : List Stmt} {h₀ : ExceptHandler} {hds : List ExceptHandler} {gb : Env → MH → SRes} {hs : List (Nat × Option Nat × List S)} {G : List S → Nat → Flds → Env → MH → SRes} (T : XTab X.K xa P) (hst : X.stack = X.env :: X.outer) (hf : X.env.frame = some X.env.locals) (hN : X.N.Nodup) (tk : Takes X W)
    (hb : ∀ (W : WX) (pn : List (Addr × Obj)) (xe : Value → Shared → Prop), Takes (X.tr pn xe) W → PassesOwn (model X.prog X.w) X.A X.env xe → PSs (X.tr pn xe) body (tS X.K W xa none none gb))
    (hh : ClOk X xa P G (h₀ :: hds) hs) :
    PS X (.Try body (h₀ :: hds) [] [] pos) (tS X.K W xa none none fun ρ M => match gb ρ M with
      | .exn k fs ρ M => if k < P.live then match clause P k hs with
        | some (n, b) => if slotIn n ρ then (G b k fs (gone n ρ) M).map (gone n) else .stuck
        | none => .exn k fs ρ M
        else .stuck
      | r => r) := by
  obtain ⟨g1, g2⟩ := hh.mx
  refine PS.imp (ps_try_mix hst hf hN tk hb g1) fun D σ H ⟨β, ρ, M, sr, q⟩ => ⟨β, ρ, M, sr, ?_⟩
  dsimp only at q
  cases e : gb ρ M with
  | nx ρ' M' => rw [e] at q; exact q
  | bk ρ' M' => rw [e] at q; exact q
  | ct ρ' M' => rw [e] at q; exact q
  | rt d M' => rw [e] at q; exact q
  | stuck => rw [e] at q; exact q
  | exn k fs ρ' M' =>
    rw [e] at q
    dsimp only at q
    by_cases hk : k < P.live
    · rw [if_pos hk] at q
      exact s_tryM_read (G := G) (ρ := ρ') (M := M') (fs := fs) T (fun p hp => (g2 p hp).1) (List.getElem?_eq_getElem (Nat.lt_of_lt_of_le hk T.le)) hk q
    · rw [if_neg hk] at q
      exact q.elim
end
end LX

set_option Elab.async false
set_option linter.all false
set_option maxRecDepth 100000
set_option maxHeartbeats 2000000
/-! LxKw: calls whose arguments are all named. -/
namespace LX
open PySem L2 PyProof.Rows
def gq {α : Type} (n : Nat) (pm : List Nat) (us ws : List α) : List α := if us.length = 0 ∧ ws.length = n then permL pm ws else []
theorem vals_get : ∀ {zs : List V} {ws : List Value}, Vals zs ws → ∀ i : Nat, (zs[i]? = none ∧ ws[i]? = none) ∨ ∃ z w, zs[i]? = some z ∧ ws[i]? = some w ∧ RelV z w
  | _, _, .nil, i => .inl ⟨by simp, by simp⟩
  | _, _, .cons r t, 0 => .inr ⟨_, _, rfl, rfl, r⟩
  | _, _, .cons r t, i + 1 => by simpa using vals_get t i
theorem vals_perm {zs : List V} {ws : List Value} (r : Vals zs ws) : ∀ pm : List Nat, Vals (permL pm zs) (permL pm ws)
  | [] => .nil
  | i :: pm => by
    have ih := vals_perm r pm
    unfold permL at ih ⊢
    rcases vals_get r i with ⟨h1, h2⟩ | ⟨z, w, h1, h2, h3⟩
    · rw [List.filterMap_cons, List.filterMap_cons, h1, h2]
      exact ih
    · rw [List.filterMap_cons, List.filterMap_cons, h1, h2]
      exact .cons h3 ih
theorem reps_perm {K : PySem.W.Frag} {H : Hp} {β : Bt} {N : Nat} : ∀ {ds : List D} {vs : List V}, Reps K H β N ds vs → ∀ pm : List Nat, Reps K H β N (permL pm ds) (permL pm vs)
  | ds, vs, r, [] => .nil
  | ds, vs, r, i :: pm => by
    have ih := reps_perm r pm
    have hl := r.length
    unfold permL at ih ⊢
    rw [List.filterMap_cons, List.filterMap_cons]
    cases q : ds[i]? with
    | none =>
      have q2 : vs[i]? = none := by
        rw [List.getElem?_eq_none_iff] at q ⊢
        omega
      rw [q2]
      exact ih
    | some d =>
      have key : ∀ {ds : List D} {vs : List V} {i : Nat} {d : D}, Reps K H β N ds vs → ds[i]? = some d → ∃ v, vs[i]? = some v ∧ Rep K H β N d v := by
        intro ds
        induction ds with
        | nil => intro vs i d _ h; simp at h
        | cons e es ihh =>
          intro vs i d r h
          obtain ⟨v, w, rfl, r1, r2⟩ := r.consI
          cases i with
          | zero => cases h; exact ⟨v, rfl, r1⟩
          | succ i =>
            obtain ⟨u, h1, h2⟩ := ihh r2 (by simpa using h)
            exact ⟨u, by simpa using h1, h2⟩
      obtain ⟨v, h1, h2⟩ := key r q
      rw [h1]
      exact .cons h2 ih
/-- how a def's named arguments bind -/
def KBq (K : PySem.W.Frag) (fd : FuncData) (ps ks : List Str) (pm : List Nat) : Prop := KBinds K fd ps ks (gq ks.length pm) (gq ks.length pm)
theorem kb_mk {K : PySem.W.Frag} {fd : FuncData} {ps ks : List Str} {pm : List Nat} (h0 : ps.length ≠ 0) (h : ∀ (s : Shared) (ws : List Value), ws.length = ks.length → BindsTo s fd ⟨[], ks.zip ws⟩ (ps.zip (permL pm ws))) : KBq K fd ps ks pm where
  to := fun s us ws X hl => by
    unfold gq at hl ⊢
    by_cases q : us.length = 0 ∧ ws.length = ks.length
    · rw [if_pos q]
      obtain rfl := List.length_eq_zero_iff.mp q.1
      exact h s ws q.2
    · rw [if_neg q] at hl
      exact absurd hl.symm h0
  rel := fun {vs us zs ws} r1 r2 => by
    unfold gq
    rw [r1.length, r2.length]
    split
    · exact vals_perm r2 pm
    · exact .nil
def AllI {α : Type} (P : Nat → α → Prop) : Nat → List α → Prop
  | _, [] => True
  | i, a :: as => P i a ∧ AllI P (i + 1) as
theorem AllI.get {α : Type} {P : Nat → α → Prop} : ∀ {l : List α} {s i : Nat} {a : α}, AllI P s l → l[i]? = some a → P (s + i) a
  | [], _, _, _, _, h => by simp at h
  | b :: l, s, 0, a, q, h => by
    cases h
    exact q.1
  | b :: l, s, i + 1, a, q, h => by
    have := AllI.get (l := l) (s := s + 1) (i := i) q.2 (by simpa using h)
    rw [show s + (i + 1) = s + 1 + i by omega]
    exact this
theorem AllI.mem {α : Type} {P : α → Prop} {l : List α} {a : α} (h : AllI (fun _ => P) 0 l) (m : a ∈ l) : P a := by
  obtain ⟨i, e⟩ := List.mem_iff_getElem?.mp m
  exact AllI.get h e
section
variable {X : Cx} {CX : CXT} {k : Nat} {f : Addr} {fd : FuncData} {ps ks : List Str} {sp : Sp} {E : L2.St → XK} {x : Str} {p pos kpos : Pos} {kws : List Keyword} {tk : TA} {pm : List Nat} {nm : Option Str}
theorem run_kw {pins : List (Addr × Obj)} {σ : L2.St} {H : Hp} {s : Shared} {Q : VK} {E : XK} {ws : List Value} {zs : List V} (F : FnOk X.prog X.w X.K X.mg X.base CX k f fd ps sp) (hr : Room k X.A) (hb : KBq X.K fd ps ks pm) (hx : PassesAt CX X σ E) (I : Inv X pins σ H s) (rz : Vals zs ws) (h : sp (gq ks.length pm [] zs) H Q E) :
    wpAny (model X.prog X.w) X.A (call (.ref f) [] (ks.zip ws)) (EP X pins σ Q) X.xe s := by
  have r2 := hb.rel (.nil : Vals [] []) rz
  have hl : (gq ks.length pm ([] : List Value) ws).length = ps.length := r2.length.symm.trans (F.len _ _ _ _ h)
  refine wpAny_call (codeAny_mono (F.run X.A X.stack s H ⟨[], ks.zip ws⟩ _ _ Q E hr I.env0 (hb.to s [] ws I.kIn hl) r2 h) fun r t ht => ?_)
  cases r with
  | error e => exact hx pins H s e t I ht
  | ok fl =>
    cases fl with
    | ret u => exact I.after ht
    | next => exact ht.elim
    | brk => exact ht.elim
    | cont => exact ht.elim
/-- f(k = v, ..) -/
theorem pe_kw (F : FnOk X.prog X.w X.K X.mg X.base CX k f fd ps sp) (hr : Room k X.A) (hg : Gl X x) (hm : X.mg x = some (.ref f)) (hk : PySem.W.keepIn X.K (.ref f) = true) (hb : KBq X.K fd ps ks pm) (hx : ∀ σ, PassesAt CX X σ (E σ)) (hkw : PK X kws tk)
    (hall : (backToKw pos (keywordEach kws X.env)).all (·.1.isSome) = true) (hks : (backToKw pos (keywordEach kws X.env)).filterMap (·.1) = ks) (hdb : (x == ("__debug__" : Str)) = false) (hpl : ((backTo pos (starEach [] X.env)).any (·.1) || (backToKw pos (keywordEach kws X.env)).any (·.1.isNone)) = false) :
    PE X (.Call (.Name x p) [] kws pos) (fun σ H Q => tk σ H fun zs H1 => sp (gq ks.length pm [] zs) H1 Q (E σ)) := by
  refine ⟨fun pins s σ H Q I h => wpAny_Call_Name_kw (ld_glob I hg hm ?_ hdb)⟩
  refine PySem.W.callWith_KW0 (h₀ := X.base) I.ok.mod.kin hk hall (thn (hkw.run pos pins s σ H _ I h) fun ws t ⟨zs, H1, J, rz, q⟩ => ⟨J.kIn, ?_⟩) hpl
  rw [hks]
  exact run_kw F hr hb (hx σ) J rz q
theorem PK.imp {t t' : TA} (h : PK X kws t) (q : ∀ σ H Q, t' σ H Q → t σ H Q) : PK X kws t' := ⟨fun pos pins s σ H Q I z => h.run pos pins s σ H Q I (q σ H Q z)⟩
variable {W : WX} {xa : Nat → Addr} {hx : Option Hx} {η : Option (Nat × Flds)} {fa : LX.Env → MH → Res D} {fs : LX.Env → MH → Res (List D)} {e : Expr}
theorem dk_nil : PK X [] (tDs X.K W xa hx η fun ρ M => .ok [] M) := PK.imp pk_nil fun σ H Q ⟨β, ρ, M, sr, h⟩ => h.okR sr.heap Reps.nil
theorem dk_cons (ha : PE X e (tD X.K W xa hx η fa)) (hr : PK X kws (tDs X.K W xa hx η fs)) : PK X (⟨nm, e, kpos⟩ :: kws) (tDs X.K W xa hx η fun ρ M => (fa ρ M).bind fun d M => (fs ρ M).bind fun ds M => .ok (d :: ds) M) :=
  PK.imp (pk_cons ha hr) fun σ H Q h => tR.seq h fun β ρ M x v H1 sr r1 h1 =>
    tR.seq2 sr h1 fun β2 M2 ds vs H2 sr2 mo _ r2 h2 => h2.okR sr2.heap (.cons (mo r1) r2)
theorem kw_all {env : PySem.Env} : ∀ {kws : List Keyword}, kws.all (fun k => k.arg.isSome) = true → (backToKw pos (keywordEach kws env)).all (·.1.isSome) = true
  | [], _ => rfl
  | ⟨a, e, q⟩ :: kws, h => by
    rw [List.all_cons, Bool.and_eq_true] at h
    have ih := kw_all (env := env) (kws := kws) h.2
    show (a.isSome && (backToKw pos (keywordEach kws env)).all (·.1.isSome)) = true
    rw [ih, Bool.and_true]
    exact h.1
theorem kw_some {env : PySem.Env} : ∀ {kws : List Keyword}, kws.all (fun k => k.arg.isSome) = true → (backToKw pos (keywordEach kws env)).any (·.1.isNone) = false
  | [], _ => rfl
  | ⟨a, e, q⟩ :: kws, h => by
    rw [List.all_cons, Bool.and_eq_true] at h
    have ih := kw_some (env := env) (kws := kws) h.2
    show (a.isNone || (backToKw pos (keywordEach kws env)).any (·.1.isNone)) = false
    rw [ih, Bool.or_false]
    have h1 : a.isSome = true := h.1
    cases a with
    | none => cases h1
    | some _ => rfl
theorem kw_names {env : PySem.Env} : ∀ kws : List Keyword, (backToKw pos (keywordEach kws env)).filterMap (·.1) = kws.filterMap (·.arg)
  | [] => rfl
  | ⟨a, e, q⟩ :: kws => by
    have ih := kw_names (env := env) kws
    show ((a, _) :: backToKw pos (keywordEach kws env)).filterMap (·.1) = _
    rw [List.filterMap_cons, List.filterMap_cons, ih]
/-- the def's promise at named arguments -/
theorem d_kw {F : List D → MH → Res D} {np : Nat} (hF : FnOk X.prog X.w X.K X.mg X.base (L2.CX X.prog X.w) k f fd ps (spF X.K xa np F)) (hr : Room k X.A) (hg : Gl X x) (hm : X.mg x = some (.ref f)) (hk : PySem.W.keepIn X.K (.ref f) = true) (hb : KBq X.K fd ps ks pm) (tk : Takes X W)
    (hn : ∀ ds M, F ds M ≠ .stuck → ds.length = np) (ha : PK X kws (tDs X.K W xa hx η fs)) (hdb : (x == ("__debug__" : Str)) = false) (hall : kws.all (fun k => k.arg.isSome) = true) (hks : kws.filterMap (·.arg) = ks) :
    PE X (.Call (.Name x p) [] kws pos) (tD X.K W xa hx η fun ρ M => (fs ρ M).bind fun ds M => if ds.length = ks.length then F (permL pm ds) M else .stuck) := by
  refine PE.imp (pe_kw hF hr hg hm hk hb (fun σ => passAt tk σ) ha (kw_all hall) ((kw_names kws).trans hks) hdb ?_) fun σ H Q h => tR.seq h fun β ρ M ds vs H1 sr r1 h1 => ?_
  · rw [kw_some hall]
    rfl
  · obtain ⟨hl, h1⟩ := Post.ite h1
    have eg : gq ks.length pm ([] : List V) vs = permL pm vs := if_pos ⟨rfl, r1.length.trans hl⟩
    rw [eg]
    have r2 := reps_perm r1 pm
    refine ⟨?_, β, M, permL pm ds, sr.heap, r2, ?_⟩
    · rw [r2.length]
      exact hn _ M fun z => by rw [z] at h1; exact h1
    · cases q : F (permL pm ds) M with
      | ok d M' => rw [q] at h1; exact h1
      | exn c fs M' => rw [q] at h1; exact h1
      | stuck => rw [q] at h1; exact h1.elim
end
section
variable {X : Cx} {W : WX} {xa : Nat → Addr} {hx : Option Hx} {η : Option (Nat × Flds)} {fa : LX.Env → MH → Res D} {o : Expr} {apos cpos : Pos}
theorem d_lower (ho : PE X o (tD X.K W xa hx η fa)) (hb : okBase o = true) (hl : (apos.endLine == cpos.line) = true) :
    PE X (.Call (.Attribute o "lower" apos) [] [] cpos) (tD X.K W xa hx η fun ρ M => (fa ρ M).bind fun x M => (ofO (lowD x) M).bind fun d M => .ok d M) :=
  PE.imp (pe_lower ho (base_of hb) hl) fun σ H Q h => tR.seq h fun β ρ M x v H1 sr r1 h1 => by
    obtain ⟨d, e1, h1⟩ := h1.ofO
    cases x with
    | str s =>
      have e2 : (if (s.all (fun c => decide (c < 128)) && decide (s.length ≤ 5592405)) = true then some (D.str (s.map lo1)) else none) = some d := e1
      by_cases hc : (s.all (fun c => decide (c < 128)) && decide (s.length ≤ 5592405)) = true
      · rw [if_pos hc] at e2
        obtain rfl := Option.some.inj e2
        rw [Bool.and_eq_true, decide_eq_true_eq, List.all_eq_true] at hc
        obtain ⟨hz, rfl⟩ := r1.strI
        refine ⟨⟨_, rfl⟩, _, rfl, rfl, by rw [len_str_arr]; exact hc.2, ?_⟩
        have el : Txt.lower (⟨s.toArray⟩ : Str) = ⟨(s.map lo1).toArray⟩ := by
          rw [PyProof.Rows.lower_ascii fun c hcm => of_decide_eq_true (hc.1 c (by simpa using hcm))]
          rw [List.map_toArray]
          rfl
        rw [el]
        exact h1.okR sr.heap (Rep.mkStr (by rw [List.length_map]; exact hz))
      · rw [if_neg hc] at e2
        cases e2
    | _ => cases e1
end
end LX

set_option Elab.async false
set_option linter.all false
set_option maxRecDepth 100000
set_option maxHeartbeats 2000000
/-! LxHot: a def of one parameter, called in an except suite with the error itself. -/
namespace LX
open PySem L2 PyProof.Rows
/-- where such a def's body stands -/
def cxQ (X : Cx) (N : List Str) (qual : Str) (st : Stmt) (f : Addr) (cd : Value) (s : Shared) (H : Hp) (a : Addr) (oe : Obj) : Cx := { L2H.cxH CX0 X.prog X.w X.K X.mg X.base N qual (defScope st) f cd X.A X.stack s H E0 (a, oe) with xe := fun _ _ => False }
theorem mark_same {A : Around} {v : Value} (h : A.handled = some v) : A.mark (some v) = A := by
  obtain ⟨⟩ := A
  simp only at h
  subst h
  rfl
theorem cxQ_suite {X : Cx} {N : List Str} {qual : Str} {st : Stmt} {f : Addr} {cd : Value} {s : Shared} {H : Hp} {a : Addr} {oe : Obj} (h : X.A.handled = some (.ref a)) : cxQ X N qual st f cd s H a oe = (cxQ X N qual st f cd s H a oe).suite a ((a, oe) :: []) := by
  have e : (cxQ X N qual st f cd s H a oe).A.mark (some (.ref a)) = (cxQ X N qual st f cd s H a oe).A := mark_same h
  show cxQ X N qual st f cd s H a oe = { cxQ X N qual st f cd s H a oe with A := (cxQ X N qual st f cd s H a oe).A.mark (some (.ref a)), calm := false, pn := [(a, oe)], xe := fun _ _ => False }
  rw [e]
  rfl
theorem call_q {X : Cx} {pins : List (Addr × Obj)} {σ : L2.St} {s : Shared} {H : Hp} {Q : VK} {x qual : Str} {st : Stmt} {f : Addr} {fd : FuncData} {N : List Str} {p0 : Str} {a : Addr} {oe : Obj} (F : Fun X.K x qual st f fd) (S : FnScope N [p0] (defScope st)) (hb : Binds X.K fd [p0] []) (hd : X.A.depth < recursionLimit) (hp : (a, oe) ∈ X.pn) (I : Inv X pins σ H s)
    (body : ∀ cdv, ∃ t, PSs (cxQ X N qual st f cdv s H a oe) (defBody st) t ∧ t { nx := fun _ H' => Q .non H', rt := Q } (L2.start N [.ref a]) H) : wpAny (model X.prog X.w) X.A (call (.ref f) [.ref a]) (EP X pins σ Q) X.xe s := by
  obtain ⟨oc, od, kV, doc, pm, an, cdv, ct, osl, rfl, lk, hcd⟩ := F.ex
  obtain ⟨g1, g2, g3, g4, g5⟩ := I.pin (a, oe) (List.mem_append_left _ hp)
  have hpin : L2H.PinOk X.stack H s (a, oe) := ⟨g1, g2, fun hm => (List.mem_cons.mp (I.stkSub a hm)).elim g3 g4, g5⟩
  have e0 := I.env0
  have kx : X.K.In s.heap := I.kIn
  have nl : s.heap.NoLimit := e0.mod.nolimit.keeps fun b o e => (e0.bs b o e).1
  have bt := hb s [.ref a] kx rfl
  have kinds : ∀ y ∈ [p0].zip [Value.ref a], (defScope st).names.lookup y.1 = some .local ∨ ((defScope st).names.lookup y.1 = some .cell ∧ ((cellsFrom (s.heap.objs.size + 1) (defScope st).names []).lookup y.1).isSome = true) := fun ⟨n, v⟩ hy => by
    rcases S.par n (List.of_mem_zip hy).1 with q | q
    · exact .inl q
    · exact .inr ⟨q, PySem.W.cellsFrom_some _ _ _ (.inl q)⟩
  refine wpAny_call (codeAny_mono (R := CR CX0 X.stack X.prog X.w H s Q E0) (codeAny_call_function hd (kx _ _ lk) rfl S.co S.gen rfl (PySem.W.codeRec_of kx hcd) (bt _ _ _ _ (wpAny_newFunctionEnv_cells S.kind kinds fun env he t y => ?_))) fun r t ht => ?_)
  · subst he
    refine ⟨nl.keeps y.toInCall.keep, codeAny_func ?_⟩
    obtain ⟨tt, hbody, hq⟩ := body cdv
    have J0 := L2H.inv_startH (CX := CX0) (E := E0) (f := f) (cd := cdv) (vs := [.ref a]) S hpin e0 rfl (.cons rfl .nil) y
    have J : Inv (cxQ X N qual st f cdv s H a oe) [] (L2.start N [.ref a]) H t := J0.toTry fun _ _ => False
    refine wpAny_mono (hbody.run [] t (L2.start N [.ref a]) H _ J hq) (fun fl t2 ends => ?_) fun e t2 z => z.elim
    cases fl with
    | ret u =>
      obtain ⟨v, x1, G, J2, rv, w⟩ := ends
      exact ⟨v, G, J2.os, J2.bare, J2.base, J2.hok, rv, w⟩
    | next =>
      obtain ⟨x1, G, J2, w⟩ := ends
      exact ⟨.non, G, J2.os, J2.bare, J2.base, J2.hok, rfl, w⟩
    | brk => obtain ⟨_, _, _, w⟩ := ends; exact w.elim
    | cont => obtain ⟨_, _, _, w⟩ := ends; exact w.elim
  · cases r with
    | error e => exact (show False from ht).elim
    | ok fl =>
      cases fl with
      | ret u => exact I.after ht
      | next => exact ht.elim
      | brk => exact ht.elim
      | cont => exact ht.elim
section
variable {X : Cx} {W : WX} {xa : Nat → Addr} {h : Hx} {xk : Nat} {fl : Flds}
theorem hres_read {K : PySem.W.Frag} {H : Hp} {β : Bt} {N : Nat} {σ : L2.St} {r : SRes} {Q : VK} {h1 h2 : Option Hx} {e1 : Option (Nat × Flds)} (q : Post K W xa (RD K) σ H β N (hres r) Q) : PostS K WF xa h2 e1 H β N r { nx := fun _ H' => Q .non H', rt := Q } := by
  cases r with
  | rt d M => exact q
  | nx ρ M => exact fun β' H' σ' e s => q β' H' .non e s.heap rfl
  | bk ρ M => exact q.elim
  | ct ρ M => exact q.elim
  | exn c fs ρ M => exact q.elim
  | stuck => exact q.elim
theorem d_hot {i ns : Nat} {x y qual : Str} {st : Stmt} {f : Addr} {fd : FuncData} {N : List Str} {p0 : Str} {p p' pos : Pos} {g : LX.Env → MH → SRes} (HX : HotX X (xa xk) h) (hi : h.i = some i) (hN : X.N[i]? = some y) (hv : Vis X.env.scope y) (hdy : nm y = true)
    (F : Fun X.K x qual st f fd) (S : FnScope N [p0] (defScope st)) (hb : Binds X.K fd [p0] []) (hd : X.A.depth < recursionLimit) (hg : Gl X x) (hm : X.mg x = some (.ref f)) (hk : PySem.W.keepIn X.K (.ref f) = true) (hdb : nm x = true) (hns : N.length = ns) (h0 : 0 < ns)
    (body : ∀ (cdv : Value) (s : Shared) (H : Hp) (oe : Obj) (pn : List (Addr × Obj)), HotX ((cxQ X N qual st f cdv s H h.a oe).suite h.a ((h.a, oe) :: [])) (xa xk) ⟨some 0, h.a, h.dx⟩ → PSs ((cxQ X N qual st f cdv s H h.a oe).suite h.a ((h.a, oe) :: [])) (defBody st) (tS X.K WF xa (some ⟨some 0, h.a, h.dx⟩) (some (xk, fl)) g)) :
    PE X (.Call (.Name x p) [.Name y p'] [] pos) (tD X.K W xa (some h) (some (xk, fl)) fun ρ M => hres (g (List.replicate ns none) M)) := by
  refine ⟨fun pins s σ H Q I q => wpAny_Call_Name_kw (ld_glob I hg hm ?_ (nm_ok hdb).1)⟩
  have ha : PA X [.Name y p'] (tCons (fun σ H Q => (∃ β ρ M, SR X.K (some h) (some (xk, fl)) H β M ρ σ) ∧ Q (.ref h.a) H) tNil) := pa_cons (pe_hot (xk := xk) (fl := fl) hi hN hv hdy) pa_nil rfl
  refine PySem.W.callWith_K (h₀ := X.base) I.ok.mod.kin hk (thn (ha.run pos pins s σ H (fun vs H1 => vs = [.ref h.a] ∧ H1 = H) I ?_) fun us t ⟨vs, H1, J, r, e1, e2⟩ => ⟨J.kIn, ?_⟩) rfl rfl
  · obtain ⟨β, ρ, M, sr, _⟩ := q
    exact ⟨⟨β, ρ, M, sr⟩, rfl, rfl⟩
  · subst e1 e2
    obtain rfl : us = [.ref h.a] := by
      cases r with
      | cons r1 r2 => cases r2; cases (show _ = Value.ref h.a from r1); rfl
    obtain ⟨Y, oe, pn, eX, hz, hf⟩ := HX.is
    have hh : X.A.handled = some (.ref h.a) := by rw [eX]; rfl
    refine call_q (oe := oe) F S hb hd (by rw [eX]; exact List.mem_cons_self) J fun cdv => ?_
    have hx2 : HotX ((cxQ X N qual st f cdv t H1 h.a oe).suite h.a ((h.a, oe) :: [])) (xa xk) ⟨some 0, h.a, h.dx⟩ := ⟨_, oe, [], rfl, hz, hf⟩
    rw [cxQ_suite hh]
    refine ⟨_, body cdv t H1 oe [] hx2, ?_⟩
    obtain ⟨β, ρ, M, sr, q⟩ := q
    refine ⟨β, List.replicate ns none, M, ⟨⟨?_, fun j d e => ?_⟩, sr.heap, ?_⟩, hres_read (h1 := none) q⟩
    · unfold L2.start
      rw [List.length_replicate, List.length_append, List.length_map, List.length_replicate, ← hns]
      simp only [List.length_cons, List.length_nil]
      omega
    · rw [List.getElem?_replicate] at e
      split at e <;> cases e
    · obtain ⟨_, fvs, b1, b2⟩ := sr.hot
      exact ⟨fun j e => by cases e; rfl, fvs, b1, b2⟩
end
end LX

set_option Elab.async false
set_option linter.all false
set_option maxRecDepth 100000
set_option maxHeartbeats 3200000
/-! LxSet: set(xs), xs a list of texts or a text. -/
namespace LX
open PySem L2 PyProof.Rows PySem.Spec PySem.Froz
def addS (acc : List Str) (x : Str) : List Str := if x ∈ acc then acc else x :: acc
def mets (xs : List Str) : List Str := xs.foldl addS []
theorem mets_snoc (xs : List Str) (x : Str) : mets (xs ++ [x]) = addS (mets xs) x := by
  unfold mets
  rw [List.foldl_append]
  rfl
theorem addS_le (acc : List Str) (x : Str) : (addS acc x).length ≤ acc.length + 1 := by
  unfold addS
  split
  · omega
  · exact Nat.le_refl _
theorem fold_le (xs : List Str) : ∀ acc : List Str, (xs.foldl addS acc).length ≤ acc.length + xs.length := by
  induction xs with
  | nil => exact fun acc => Nat.le_refl _
  | cons x xs ih =>
    intro acc
    have h1 := ih (addS acc x)
    have h2 := addS_le acc x
    rw [List.foldl_cons, List.length_cons]
    omega
theorem mets_le (xs : List Str) : (mets xs).length ≤ xs.length := by
  have h := fold_le xs []
  rw [List.length_nil, Nat.zero_add] at h
  exact h
theorem mets_take {xs : List Str} {i : Nat} {x : Str} (h : xs[i]? = some x) : mets (xs.take (i + 1)) = addS (mets (xs.take i)) x := by
  rw [List.take_succ, h]
  exact mets_snoc _ x
theorem addS_nd {acc : List Str} {x : Str} (h : acc.Nodup) : (addS acc x).Nodup := by
  unfold addS
  split
  · exact h
  · rename_i q
    exact List.nodup_cons.mpr ⟨q, h⟩
theorem mets_nd (xs : List Str) : (mets xs).Nodup := by
  have key : ∀ (xs acc : List Str), acc.Nodup → (xs.foldl addS acc).Nodup := by
    intro xs
    induction xs with
    | nil => exact fun acc h => h
    | cons x xs ih => exact fun acc h => ih _ (addS_nd h)
  exact key xs [] List.nodup_nil
/-- the payload of the set of the texts l, in the order in which the model walks it -/
structure GdS (P : Program) (w : World) (D : SD) (l : List Str) : Prop where
  ok : TxOk P w D l
  ris : Ris D.2.2.place.toList
  led : w.params.followText "set-order" = true ∨ D.2.2.led = true
section
variable {P : Program} {w : World} {D : SD} {l : List Str} {k : Str} {u : Tok}
theorem tail_ris {ep : Nat} {es : Array (Int × Value)} {t : SetTable} {b : Bool} (h : Ris t.place.toList) : Ris (tailTx ep es t b).2.2.place.toList := by
  unfold tailTx
  split
  · exact relayAll_ris _ _ _
  · exact h
theorem tail_led {ep : Nat} {es : Array (Int × Value)} {t : SetTable} {b : Bool} : (tailTx ep es t b).2.2.led = t.led := by
  unfold tailTx
  split
  · exact relayAll_led _ _ _
  · rfl
theorem GdS.add (G : GdS P w D l) : GdS P w (addTx (hashStr w k) (.str k u) D) (k :: l) := by
  have h1 := layNew_ris D.2.2 D.1 (hashStr w k) (.str k u) G.ris
  have h2 := layNew_led D.2.2 D.1 (hashStr w k) (.str k u)
  refine ⟨add_ok u G.ok, ?_, G.led.imp id fun q => ?_⟩
  · unfold addTx
    refine tail_ris ?_
    split
    · exact h1
    · exact h1
  · unfold addTx
    rw [tail_led]
    split
    · exact h2.trans q
    · exact h2.trans q
end
abbrev newO (w : World) : Obj := sObj "set" (#[], 0, .fresh 0 0 (!w.params.followText "set-order"))
theorem GdS.new (P : Program) (w : World) : GdS P w (#[], 0, .fresh 0 0 (!w.params.followText "set-order")) [] := by
  refine ⟨TxOk.nil rfl, List.Pairwise.nil, ?_⟩
  show _ ∨ (!w.params.followText "set-order") = true
  cases w.params.followText "set-order"
  · exact .inr rfl
  · exact .inl rfl
/-- the set of the texts xs -/
abbrev SetS (P : Program) (w : World) (h : Heap) (S : Addr) (xs : List Str) : Prop := ∃ D, h.get? S = some (sObj "set" D) ∧ GdS P w D (mets xs)
theorem setS_at {P : Program} {w : World} {h h' : Heap} {S : Addr} {xs : List Str} (z : SetS P w h S xs) (k : ∀ o, h.get? S = some o → h'.get? S = some o) : SetS P w h' S xs := by
  obtain ⟨D, ho, more⟩ := z
  exact ⟨D, k _ ho, more⟩
section
variable {P : Program} {w : World} {A : Around} {E : Value → Shared → Prop} {s : Shared}
/-- an add of a text that is there -/
theorem again_x {a : Addr} {D : SD} {l : List Str} {k : Str} {u : Tok} {Q : Bool → Shared → Prop} (ho : s.heap.get? a = some (sObj "set" D)) (F : TxOk P w D l) (hk : k ∈ l) (hb : l.length < scanBound)
    (h : Q false s) : wpAny (model P w) A (setAddHashed a (.str k u) (hashStr w k)) Q E s := by
  obtain ⟨es, ep, t⟩ := D
  have hd : (sObj "set" (es, ep, t)).data = .set es ep t := rfl
  have sz : es.size < scanBound := by
    have : es.size = l.length := F.sz
    omega
  obtain ⟨e, he, q⟩ := (F.mem k).mp hk
  unfold setAddHashed setAddHashedIn
  refine wpAny_holding (wpAny_bind (wpAny_setState_of ho hd F.fit ?_))
  dsimp only
  rw [byScan_of rfl sz F.el]
  simp only [↓reduceIte]
  unfold setAddByScan
  refine wpAny_bind (wpAny_bind (wpAny_rule (wpAny_bind (wpAny_setScan_of (knd := strKind P w) (k := k) (is_str k u) ho hd F.fit F.el ?_))))
  cases hf : List.findIdx? (fun e => (strKind P w).is k e.2) es.toList with
  | none =>
    have z := List.findIdx?_eq_none_iff.mp hf e he
    rw [q] at z
    cases z
  | some j => exact wpAny_pure (wpAny_pure h)
end
section
variable {P : Program} {w : World} {A : Around} {R : Result → Shared → Prop} {I : Addr} {fp wr : List Addr} {G : Array GenState → Array GenState → Prop} {n : Nat} {Pv : Nat → Value → Prop} {St : Nat → Shared → Prop}
theorem fill_strs (W : WalksS P w A.in1 I fp wr G n Pv St) (S : Addr) (out : S ∉ fp) (xs : List Str) (hn : xs.length = n) (few : n + 1 < scanBound) (val : ∀ i v, Pv i v → ∃ t, v = .str (xs.getD i Str.empty) t) :
    ∀ (todo i : Nat) (s : Shared), i + todo = n → St i s → SetS P w s.heap S (xs.take i) → (∀ s', Moved (S :: wr) G s s' → SetS P w s'.heap S xs → R (.ok (.ret .none)) s') → codeAny (model P w) A (.builtin "set.update.loop" ⟨[.ref S, .ref I], []⟩) R s := by
  have out2 : S ∉ wr := fun z => out (W.sub _ z)
  have wider : ∀ b ∈ wr, b ∈ S :: wr := fun b z => List.mem_cons_of_mem _ z
  intro todo
  induction todo with
  | zero =>
    intro i s e hs hS hR
    obtain rfl : i = n := e
    rw [← hn, List.take_length] at hS
    refine codeAny_builtin PyProof.Rows.F.entry_set_update_loop ?_
    rw [Around.under_plainId PyProof.Rows.F.plain_set_update_loop _]
    refine (wpAny_bind (W.done s _ _ hs fun t mv => ?_) : wpAny _ A.in1 (pyNext (.ref I) >>= _) _ _ s)
    show wpAny _ A.in1 (ret Value.none) _ _ t
    exact wpAny_pure (hR t (mv.mono wider) (setS_at hS fun o ho => mv.heap S _ out2 ho))
  | succ todo ih =>
    intro i s e hs hS hR
    have lt : i < n := by omega
    have gx : xs[i]? = some (xs.getD i Str.empty) := by
      rw [List.getD_eq_getElem?_getD, List.getElem?_eq_getElem (by omega)]
      rfl
    generalize hy : xs.getD i Str.empty = y at gx
    refine codeAny_builtin PyProof.Rows.F.entry_set_update_loop ?_
    rw [Around.under_plainId PyProof.Rows.F.plain_set_update_loop _]
    refine (wpAny_bind (W.item i s _ _ lt hs fun v t hv ht mv => ?_) : wpAny _ A.in1 (pyNext (.ref I) >>= _) _ _ s)
    obtain ⟨tk, rfl⟩ := val i v hv
    rw [hy]
    obtain ⟨D, hD, gd⟩ := setS_at hS fun o ho => mv.heap S _ out2 ho
    have room : (mets (xs.take i)).length + 1 < scanBound := by
      have h1 := mets_le (xs.take i)
      rw [List.length_take] at h1
      omega
    refine (wpAny_bind (wpAny_holding ?_) : wpAny _ A.in1 (holding [Value.str y tk] (setAdd S (.str y tk)) >>= _) _ _ t)
    unfold setAdd
    refine wpAny_holding (wpAny_bind ((PySem.strKind P w).pyHash (k := y) (strKind_is _ _ _ _) ?_))
    have sz : (mets (xs.take (i + 1))) = addS (mets (xs.take i)) y := mets_take gx
    by_cases hm : y ∈ mets (xs.take i)
    · have e1 : addS (mets (xs.take i)) y = mets (xs.take i) := if_pos hm
      have new2 : SetS P w t.heap S (xs.take (i + 1)) := ⟨D, hD, by rw [sz, e1]; exact gd⟩
      refine again_x (s := { t with toks := t.toks + 1 }) hD gd.ok hm (by omega) ?_
      refine wpAny_pure ⟨plainId_quiet PyProof.Rows.F.plain_set_update_loop _, ih (i + 1) _ (by omega) (W.frame _ t _ _ ht (Nat.le_succ _) fun b hb o z => z) new2 fun t2 mv2 fin => hR t2 (Moved.trans W.gtrans ((mv.mono wider).then_heap (Nat.le_succ _) fun b o hb z => z) mv2) fin⟩
    · have e1 : addS (mets (xs.take i)) y = y :: mets (xs.take i) := if_neg hm
      refine add_x (s := { t with toks := t.toks + 1 }) hD gd.ok hm room ?_
      have new2 : SetS P w (t.heap.update S (fun _ => sObj "set" (addTx (hashStr w y) (.str y tk) D))) S (xs.take (i + 1)) := ⟨_, get_upd _ hD rfl, by rw [sz, e1]; exact gd.add⟩
      have sb := Heap.SameBut.update t.heap S (fun _ => sObj "set" (addTx (hashStr w y) (.str y tk) D))
      refine wpAny_pure ⟨plainId_quiet PyProof.Rows.F.plain_set_update_loop _, ih (i + 1) _ (by omega) (W.frame _ t _ _ ht (Nat.le_succ _) fun b hb o z => (sb.2 b fun q => out (q ▸ hb)).trans z) new2 fun t2 mv2 fin => hR t2 (Moved.trans W.gtrans ((mv.mono wider).then_heap (Nat.le_succ _) fun b o hb z => (sb.2 b fun q => hb (q ▸ List.mem_cons_self)).trans z) mv2) fin⟩
end
section
variable {P : Program} {w : World} {A : Around} {E : Value → Shared → Prop} {s : Shared}
abbrev newH (w : World) (h : Heap) : Heap := h.push { cls := .type "set", dict := none, data := .set #[] 0 (.fresh 0 0 (!w.params.followText "set-order")) }
/-- set(v), by what filling it with v does -/
theorem set_of {v : Value} {xs : List Str} {Q : Value → Shared → Prop}
    (up : ∀ (A' : Around) (E' : Value → Shared → Prop) (Q' : Unit → Shared → Prop), A'.handled = A.handled → (∀ (h' : Heap) (tk : Nat), SetS P w h' s.heap.objs.size xs → (∀ b o, b < s.heap.objs.size → s.heap.get? b = some o → h'.get? b = some o) → Q' () { s with heap := h', toks := tk }) →
      wpAny (model P w) A' (Builtin.Frozenset.updateFrom "set.__init__" s.heap.objs.size v) Q' E' { s with heap := newH w s.heap })
    (fin : ∀ (h' : Heap) (tk : Nat), SetS P w h' s.heap.objs.size xs → (∀ b o, b < s.heap.objs.size → s.heap.get? b = some o → h'.get? b = some o) → Q (.ref s.heap.objs.size) { s with heap := h', toks := tk }) :
    wpAny (model P w) A (call (.type "set") [v]) Q E s := by
  have ⟨c, tl, hmro⟩ := PySem.F.called_set.mro
  have hmade := PySem.F.called_set.made
  have hsub := PySem.F.called_set.sub
  refine wpAny_call (codeAny_of_tree (?_ : wpAny _ _ (callAny (.type "set") _) _ _ _))
  refine wpAny_pure ⟨Code.quiet_builtin _ (by decide +kernel), codeAny_builtin PySem.F.entry_type_call ?_⟩
  rw [Around.under_plain (weight_type_call_type "set" [v] []) rfl]
  have hnt := PySem.F.called_set.notType
  have hcc := PySem.F.called_set.canCreate
  have htc := PySem.F.typeCall_set_1 v
  repeat (any_goals (first | assumption | wp_step))
  refine codeAny_mono (code_set_led1 v (E := E) (Q₁ := fun z t => z = .ref s.heap.objs.size ∧ t = { s with heap := newH w s.heap }) ⟨rfl, rfl⟩) fun r t hr => ?_
  match r, hr with
  | .error e, hr => exact hr
  | .ok .next, hr => exact hr.elim
  | .ok .brk, hr => exact hr.elim
  | .ok .cont, hr => exact hr.elim
  | .ok (.ret z), hr =>
    obtain ⟨rfl, rfl⟩ := hr
    have new := (Heap.get?_push_size s.heap rfl : (newH w s.heap).get? s.heap.objs.size = some (newO w))
    have hT : Shared.TypeIs { s with heap := newH w s.heap } (.ref s.heap.objs.size) "set" := ⟨_, new, rfl⟩
    have hil := PySem.F.called_set.init.lookup
    have hib := PySem.F.called_set.init.bind (.ref s.heap.objs.size)
    repeat (any_goals (first | assumption | wp_step))
    refine codeAny_mono (codeAny_call_builtin (R := wants (fun r t => r = .none ∧ ∃ h' tk, t = { s with heap := h', toks := tk } ∧ SetS P w h' s.heap.objs.size xs ∧ (∀ b o, b < s.heap.objs.size → s.heap.get? b = some o → h'.get? b = some o)) E) PySem.F.called_set.init.plain PySem.F.entry_set_init (check_set_init_1 hT ?_)) fun r2 t2 hr2 => ?_
    · unfold Builtin.«set.__init__» noKeywords
      generalize hU : Builtin.Frozenset.updateFrom = U
      wp_walk
      subst hU
      refine up _ _ _ (by simp) fun h' tk hS kept => ?_
      show wpAny _ _ (ret Value.none) _ _ _
      exact wpAny_pure ⟨rfl, h', tk, rfl, hS, kept⟩
    · match r2, hr2 with
      | .error e, hr2 => exact hr2
      | .ok .next, hr2 => exact hr2.elim
      | .ok .brk, hr2 => exact hr2.elim
      | .ok .cont, hr2 => exact hr2.elim
      | .ok (.ret r), hr2 =>
        obtain ⟨rfl, h', tk, rfl, hS, kept⟩ := hr2
        repeat (any_goals (first | assumption | wp_step))
        exact fin _ _ hS kept
end
end LX

set_option Elab.async false
set_option linter.all false
set_option maxRecDepth 100000
set_option maxHeartbeats 3200000
/-! LxSet: set(xs), xs a list of texts or a text; sorted of it. -/
namespace LX
open PySem L2 PyProof.Rows PySem.Spec PySem.Froz
section
variable {P : Program} {w : World} {A : Around} {E : Value → Shared → Prop} {s : Shared}
theorem up_list {l : Addr} {items : Array Value} {xs : List Str} {E' : Value → Shared → Prop} {Q' : Unit → Shared → Prop} {id : String} (calm : A.handled = none) (hl : s.heap.IsList l items) (hi : PyProof.Rows.StrsAre items.toList xs) (few : xs.length + 1 < scanBound)
    (fin : ∀ (h' : Heap) (tk : Nat), SetS P w h' s.heap.objs.size xs → (∀ b o, b < s.heap.objs.size → s.heap.get? b = some o → h'.get? b = some o) → Q' () { s with heap := h', toks := tk }) :
    wpAny (model P w) A (Builtin.Frozenset.updateFrom id s.heap.objs.size (.ref l)) Q' E' { s with heap := newH w s.heap } := by
  obtain ⟨ol, hol, hcl, nl, hdl⟩ := hl
  obtain ⟨ocls, odict, odata, oslots⟩ := ol
  simp only at hcl hdl
  subst hcl hdl
  have hol2 : (newH w s.heap).get? l = some { cls := .type "list", dict := odict, data := .seq items nl, slots := oslots } := Heap.get?_push_of_some _ hol
  have k1 := PySem.F.sub_list_set
  have k2 := PySem.F.sub_list_frozenset
  have k3 : (Value.type "list" == Value.type "dict") = false := by decide
  have hl1 : (newH w s.heap).IsList l items := ⟨_, hol2, rfl, nl, rfl⟩
  have hT : Shared.TypeIs { s with heap := newH w s.heap } (.ref l) "list" := hl1.typeIs
  unfold Builtin.Frozenset.updateFrom Builtin.Frozenset.isAnySet orM
  refine wpAny_bind (wpAny_bind (wpAny_isInstance (b := false) hT k1 ?_))
  refine wpAny_isInstance (b := false) hT k2 ?_
  refine wp_if_neg (by simp) ?_
  try refine wpAny_bind (wpAny_pure ?_)
  refine wpAny_bind (wpAny_typeOf hT ?_)
  refine wp_if_neg (by rw [k3]; simp) ?_
  try refine wpAny_bind (wpAny_pure ?_)
  refine wpAny_bind (wpAny_pyIter_list hl1 (wpAny_bind (wpAny_runValue ?_)))
  have hlS : l < s.heap.objs.size := Heap.lt_size hol
  have e1 : (newH w s.heap).objs.size = s.heap.objs.size + 1 := Heap.size_push ..
  have neI : l ≠ (newH w s.heap).objs.size := Nat.ne_of_lt (by rw [e1]; exact Nat.lt_succ_of_lt hlS)
  have out : s.heap.objs.size ∉ [(newH w s.heap).objs.size, l] := fun z => by
    simp only [List.mem_cons, List.not_mem_nil, or_false] at z
    rcases z with z | z
    · rw [e1] at z
      exact Nat.ne_of_lt (Nat.lt_succ_self _) z
    · exact Nat.ne_of_gt hlS z
  have hsz : xs.length = items.size := by rw [← StrsAre.len_eq hi, Array.length_toList]
  have val : ∀ (i : Nat) (v : Value), items[i]? = some v → ∃ t, v = .str (xs.getD i Str.empty) t := fun i v hv => SS.strs_at hi i v (by rw [Array.getElem?_toList]; exact hv)
  have new := (Heap.get?_push_size s.heap rfl : (newH w s.heap).get? s.heap.objs.size = some (newO w))
  refine fill_strs (A := A) ((Walks.list (A := A.in1) calm _ l neI items).toS) s.heap.objs.size out xs hsz (by rw [← hsz]; exact few) val items.size 0 _ (Nat.zero_add _) ?st ?empty ?after
  case st => exact ⟨⟨_, Heap.get?_push_size _ rfl, rfl, rfl⟩, hl1.push _⟩
  case empty => exact ⟨(#[], 0, .fresh 0 0 (!w.params.followText "set-order")), Heap.get?_push_of_some _ new, GdS.new P w⟩
  case after =>
    intro t mv hS
    obtain ⟨h', g', d', tk', os'⟩ := t
    obtain rfl : g' = s.gens := mv.gens
    obtain rfl : d' = s.drawn := mv.drawn
    obtain rfl : os' = s.os := mv.os
    show wpAny _ _ (pure ()) _ _ _
    refine wpAny_pure (fin h' tk' hS fun c o hc z => mv.heap c o (fun y => ?_) (Heap.get?_push_of_some _ (Heap.get?_push_of_some _ z)))
    simp only [List.mem_cons, List.not_mem_nil, or_false] at y
    rcases y with y | y
    · exact Nat.ne_of_lt hc y
    · rw [e1] at y
      exact Nat.ne_of_lt (Nat.lt_succ_of_lt hc) y
/-- the signs of a text as texts -/
def sgs (x : Str) : List Str := x.cps.toList.map fun c => ⟨#[c]⟩
theorem up_text {x : Str} {u : Tok} {E' : Value → Shared → Prop} {Q' : Unit → Shared → Prop} {id : String} (calm : A.handled = none) (few : x.cps.size + 1 < scanBound)
    (fin : ∀ (h' : Heap) (tk : Nat), SetS P w h' s.heap.objs.size (sgs x) → (∀ b o, b < s.heap.objs.size → s.heap.get? b = some o → h'.get? b = some o) → Q' () { s with heap := h', toks := tk }) :
    wpAny (model P w) A (Builtin.Frozenset.updateFrom id s.heap.objs.size (.str x u)) Q' E' { s with heap := newH w s.heap } := by
  have k3 : (Value.type "str" == Value.type "dict") = false := by decide
  unfold Builtin.Frozenset.updateFrom Builtin.Frozenset.isAnySet orM
  refine wpAny_bind (wpAny_bind (wpAny_isInstance (b := false) (typeIs_str _ _ _) PySem.F.sub_str_set ?_))
  refine wpAny_isInstance (b := false) (typeIs_str _ _ _) PySem.F.sub_str_frozenset ?_
  refine wp_if_neg (by simp) ?_
  try refine wpAny_bind (wpAny_pure ?_)
  try refine wpAny_bind (wpAny_typeOf (typeIs_str _ _ _) ?_)
  try refine wp_if_neg (by rw [k3]; simp) ?_
  try refine wpAny_bind (wpAny_pure ?_)
  refine wpAny_bind (wpAny_pyIter_str fun o St hW hst => wpAny_bind (wpAny_runValue ?_))
  have e1 : (newH w s.heap).objs.size = s.heap.objs.size + 1 := Heap.size_push ..
  have out : s.heap.objs.size ∉ [(newH w s.heap).objs.size] := fun z => by
    rw [List.mem_singleton, e1] at z
    exact Nat.ne_of_lt (Nat.lt_succ_self _) z
  have hsz : (sgs x).length = x.cps.size := by unfold sgs; rw [List.length_map, Array.length_toList]
  have val : ∀ (i : Nat) (v : Value), SignAt x i v → ∃ t, v = .str ((sgs x).getD i Str.empty) t := fun i v ⟨c, t, hc, e⟩ => by
    refine ⟨t, ?_⟩
    rw [e, List.getD_eq_getElem?_getD]
    unfold sgs
    rw [List.getElem?_map, Array.getElem?_toList, hc]
    rfl
  have new := (Heap.get?_push_size s.heap rfl : (newH w s.heap).get? s.heap.objs.size = some (newO w))
  refine fill_strs (A := A) ((hW A.in1 calm).toS) s.heap.objs.size out (sgs x) hsz few val x.cps.size 0 _ (Nat.zero_add _) hst ?empty ?after
  case empty => exact ⟨(#[], 0, .fresh 0 0 (!w.params.followText "set-order")), Heap.get?_push_of_some _ new, GdS.new P w⟩
  case after =>
    intro t mv hS
    obtain ⟨h', g', d', tk', os'⟩ := t
    obtain rfl : g' = s.gens := mv.gens
    obtain rfl : d' = s.drawn := mv.drawn
    obtain rfl : os' = s.os := mv.os
    show wpAny _ _ (pure ()) _ _ _
    refine wpAny_pure (fin h' tk' hS fun c o hc z => mv.heap c o (fun y => ?_) (Heap.get?_push_of_some _ (Heap.get?_push_of_some _ z)))
    simp only [List.mem_cons, List.not_mem_nil, or_false] at y
    rcases y with y | y
    · exact Nat.ne_of_lt hc y
    · rw [e1] at y
      exact Nat.ne_of_lt (Nat.lt_succ_of_lt hc) y
theorem set_strs {l : Addr} {items : Array Value} {xs : List Str} {Q : Value → Shared → Prop} (calm : A.handled = none) (hl : s.heap.IsList l items) (hi : PyProof.Rows.StrsAre items.toList xs) (few : xs.length + 1 < scanBound)
    (fin : ∀ (h' : Heap) (tk : Nat), SetS P w h' s.heap.objs.size xs → (∀ b o, b < s.heap.objs.size → s.heap.get? b = some o → h'.get? b = some o) → Q (.ref s.heap.objs.size) { s with heap := h', toks := tk }) :
    wpAny (model P w) A (call (.type "set") [.ref l]) Q E s := set_of (fun A' E' Q' c k => up_list (c.trans calm) hl hi few k) fin
theorem set_text {x : Str} {u : Tok} {Q : Value → Shared → Prop} (calm : A.handled = none) (few : x.cps.size + 1 < scanBound)
    (fin : ∀ (h' : Heap) (tk : Nat), SetS P w h' s.heap.objs.size (sgs x) → (∀ b o, b < s.heap.objs.size → s.heap.get? b = some o → h'.get? b = some o) → Q (.ref s.heap.objs.size) { s with heap := h', toks := tk }) :
    wpAny (model P w) A (call (.type "set") [.str x u]) Q E s := set_of (fun A' E' Q' c k => up_text (c.trans calm) few k) fin
end
end LX

set_option Elab.async false
set_option linter.all false
set_option maxRecDepth 100000
set_option maxHeartbeats 2000000
/-! LxSet3: len(set(xs)), sorted(set(xs)) by the IR. -/
namespace LX
open PySem L2 PyProof.Rows PySem.Spec PySem.Froz
def mkS (s : List Nat) : Str := ⟨s.toArray⟩
theorem mkS_inj {a b : List Nat} (h : mkS a = mkS b) : a = b := by
  have := congrArg (fun s : Str => s.cps.toList) h
  simpa [mkS] using this
theorem mets_dist (l : List (List Nat)) : mets (l.map mkS) = (dist l.reverse).map mkS := by
  have dm : ∀ {a : List Nat} {l : List (List Nat)}, a ∈ dist l ↔ a ∈ l := by
    intro a l
    induction l with
    | nil => exact Iff.rfl
    | cons b r ih =>
      unfold dist
      by_cases h : b ∈ r
      · rw [if_pos h, ih, List.mem_cons]
        exact ⟨.inr, fun z => z.elim (fun e => e ▸ h) id⟩
      · rw [if_neg h, List.mem_cons, List.mem_cons, ih]
  have key : ∀ r : List (List Nat), mets (r.reverse.map mkS) = (dist r).map mkS := by
    intro r
    induction r with
    | nil => rfl
    | cons a r ih =>
      rw [List.reverse_cons, List.map_append]
      show mets (r.reverse.map mkS ++ [mkS a]) = _
      rw [mets_snoc, ih, dist]
      unfold addS
      have hm : mkS a ∈ (dist r).map mkS ↔ a ∈ r := by
        rw [List.mem_map]
        constructor
        · rintro ⟨b, hb, e⟩
          have := mkS_inj e
          subst this
          exact dm.mp hb
        · intro h
          exact ⟨a, dm.mpr h, rfl⟩
      by_cases h : a ∈ r
      · rw [if_pos h, if_pos (hm.mpr h)]
      · rw [if_neg h, if_neg fun z => h (hm.mp z)]
        rfl
  have := key l.reverse
  rw [List.reverse_reverse] at this
  exact this
theorem strsAre_of' : ∀ {ys : List Str} {us : List Value}, Vals (ys.map V.str) us → PyProof.Rows.StrsAre us ys
  | [], _, .nil => .nil
  | y :: ys, _, .cons r t => by
    obtain ⟨k, rfl⟩ := r
    exact .cons y k (strsAre_of' t)
/-! ### the order -/
theorem lt1 (a b : Nat) : ltCps [a] [b] = decide (a < b) := by
  unfold ltCps
  have e : ltCps [] [] = false := rfl
  rw [e, Bool.and_false, Bool.or_false]
theorem rise1 : ∀ (cs : List Nat) (c : Nat), risingS (mkS [c]) (cs.map fun c => mkS [c]) = true → (∀ d ∈ cs, c ≤ d) ∧ cs.Pairwise (· ≤ ·)
  | [], c, _ => ⟨fun d h => (by cases h), .nil⟩
  | d :: cs, c, h => by
    have h2 : (!ltCps [d] [c] && risingS (mkS [d]) (cs.map fun c => mkS [c])) = true := h
    rw [lt1, Bool.and_eq_true, Bool.not_eq_true', decide_eq_false_iff_not] at h2
    obtain ⟨a, b⟩ := rise1 cs d h2.2
    refine ⟨fun x hx => ?_, List.pairwise_cons.mpr ⟨a, b⟩⟩
    rcases List.mem_cons.mp hx with rfl | hx
    · omega
    · have := a x hx
      omega
theorem sorted1 {cs : List Nat} (h : sortedS (cs.map fun c => mkS [c]) = true) : cs.Pairwise (· ≤ ·) := by
  cases cs with
  | nil => exact .nil
  | cons c cs =>
    obtain ⟨a, b⟩ := rise1 cs c h
    exact List.pairwise_cons.mpr ⟨a, b⟩
theorem oneL_all : ∀ {l : List (List Nat)}, oneL l = true → ∀ s ∈ l, ∃ c, s = [c]
  | [], _, s, h => by cases h
  | [c] :: r, h, s, hs => by
    rcases List.mem_cons.mp hs with rfl | hs
    · exact ⟨c, rfl⟩
    · exact oneL_all (l := r) h s hs
  | [] :: r, h, _, _ => by cases h
  | (a :: b :: t) :: r, h, _, _ => by cases h
theorem dist_sub {a : List Nat} : ∀ {l : List (List Nat)}, a ∈ dist l → a ∈ l
  | [], h => h
  | b :: r, h => by
    unfold dist at h
    by_cases q : b ∈ r
    · rw [if_pos q] at h
      exact List.mem_cons_of_mem _ (dist_sub h)
    · rw [if_neg q] at h
      rcases List.mem_cons.mp h with rfl | h
      · exact List.mem_cons_self
      · exact List.mem_cons_of_mem _ (dist_sub h)
theorem srt_of {l : List (List Nat)} {ys : List Str} (ho : oneL l = true) (hp : ys.Perm ((dist l).map mkS)) (hs : sortedS ys = true) : ys = (srtT l).map mkS := by
  have ho' : ∀ s ∈ dist l, ∃ c, s = [c] := fun s h => oneL_all ho s (dist_sub h)
  have hy : ∃ cs : List Nat, ys = cs.map fun c => mkS [c] := by
    have hall : ∀ y ∈ ys, ∃ c, y = mkS [c] := fun y h => by
      obtain ⟨s, q, rfl⟩ := List.mem_map.mp (hp.mem_iff.mp h)
      obtain ⟨c, rfl⟩ := ho' s q
      exact ⟨c, rfl⟩
    clear hp hs
    induction ys with
    | nil => exact ⟨[], rfl⟩
    | cons y ys ih =>
      obtain ⟨c, rfl⟩ := hall y List.mem_cons_self
      obtain ⟨cs, rfl⟩ := ih fun z h => hall z (List.mem_cons_of_mem _ h)
      exact ⟨c :: cs, rfl⟩
  obtain ⟨cs, rfl⟩ := hy
  have pw := sorted1 hs
  have p2 : (cs.map fun c : Nat => (c : Int)).Perm ((dist l).map fun s => ((s.headD 0 : Nat) : Int)) := by
    have q := hp.map fun y : Str => ((y.cps.toList.headD 0 : Nat) : Int)
    rw [List.map_map, List.map_map] at q
    have e1 : ((fun y : Str => ((y.cps.toList.headD 0 : Nat) : Int)) ∘ fun c => mkS [c]) = fun c : Nat => (c : Int) := rfl
    have e2 : ((fun y : Str => ((y.cps.toList.headD 0 : Nat) : Int)) ∘ mkS) = fun s : List Nat => ((s.headD 0 : Nat) : Int) := by
      funext s
      show ((s.toArray.toList.headD 0 : Nat) : Int) = _
      rw [List.toList_toArray]
    rw [e1, e2] at q
    exact q
  have e : (cs.map fun c : Nat => (c : Int)) = sortI ((dist l).map fun s => ((s.headD 0 : Nat) : Int)) := by
    refine sort_unique (p2.trans (sortI_perm _).symm) ?_ (sortI_sorted _)
    rw [List.pairwise_map]
    exact pw.imp fun h => Int.ofNat_le.mpr h
  unfold srtT
  rw [← e, List.map_map, List.map_map]
  exact List.map_congr_left fun c _ => by show mkS [c] = mkS [(c : Int).toNat]; rw [Int.toNat_natCast]
theorem perm_of {α : Type} [DecidableEq α] : ∀ {l ks : List α}, l.Nodup → (∀ x ∈ l, x ∈ ks) → ks.length = l.length → ks.Perm l
  | [], ks, _, _, hl => by
    obtain rfl := List.length_eq_zero_iff.mp hl
    exact .refl _
  | x :: l, ks, hn, hm, hl => by
    obtain ⟨n1, n2⟩ := List.nodup_cons.mp hn
    have hx := hm x List.mem_cons_self
    refine (List.perm_cons_erase hx).trans ((perm_of n2 (fun y hy => ?_) ?_).cons x)
    · exact (List.mem_erase_of_ne (fun z : y = x => n1 (by rw [← z]; exact hy))).mpr (hm y (List.mem_cons_of_mem _ hy))
    · rw [List.length_erase_of_mem hx, hl]
      rfl
section
variable {P : Program} {w : World} {A : Around} {E : Value → Shared → Prop} {s : Shared}
/-- sorted of a set of texts -/
theorem sort_setS {a : Addr} {xs : List Str} {Q : Value → Shared → Prop} (calm : A.handled = none) (hS : SetS P w s.heap a xs) (h64 : (mets xs).length < 64)
    (fin : ∀ (s2 : Shared) (p : Addr) (out : Array Value) (c : Nat) (ys : List Str), (∀ b o, s.heap.get? b = some o → s2.heap.get? b = some o) → s2.gens = s.gens → s2.os = s.os → s.heap.objs.size ≤ p →
      s2.heap.get? p = some (seqObj "list" out c) → StrsAre out.toList ys → ys.Perm (mets xs) → sortedS ys = true → Q (.ref p) s2) :
    wpAny (model P w) A (call (.builtin "sorted") [.ref a]) Q E s := by
  obtain ⟨⟨es, ep, t⟩, ho, G⟩ := hS
  have sz : es.size = (mets xs).length := G.ok.sz
  refine Calls.call_function_entry kind_sorted plain_sorted entry_sorted (args_sorted1 _) ?_
  unfold Builtin.«sorted»
  refine wpAny_bind (m := checkCount "sorted" 1 1 _) (wpAny_pure ?_)
  refine wpAny_bind (collect_set (A := A.in1) (es := es) (ep := ep) (t := t) calm ⟨_, ho, rfl, rfl⟩ G.ok.fit (by rw [sz]; unfold scanBound; omega) G.ris G.led fun s1 vs k1 hz g1 o1 pm => ?_)
  have hvl : vs.length = (mets xs).length := by rw [pm.length_eq, List.length_map, Array.length_toList]; exact sz
  have good : ∀ e ∈ es.toList, ∃ k tk, e.2 = Value.str k tk := fun e he => by
    obtain ⟨⟨k, q1, _⟩, _⟩ := G.ok.el e he
    obtain ⟨tk, q⟩ := Value.isStrOf_shape (x := k) (v := e.2) q1
    exact ⟨k, tk, q⟩
  have key : ∀ {us : List Value}, (∀ v ∈ us, ∃ k tk, v = Value.str k tk) → ∃ ks, StrsAre us ks := by
    intro us
    induction us with
    | nil => exact fun _ => ⟨[], .nil⟩
    | cons u us ih =>
      intro h
      obtain ⟨k, tk, rfl⟩ := h u List.mem_cons_self
      obtain ⟨ks, q⟩ := ih fun v hv => h v (List.mem_cons_of_mem _ hv)
      exact ⟨k :: ks, .cons k tk q⟩
  obtain ⟨ks, hK⟩ := key (us := vs) fun v hv => by
    obtain ⟨e, he, q⟩ := List.mem_map.mp (pm.mem_iff.mp hv)
    obtain ⟨k, tk, q2⟩ := good e he
    exact ⟨k, tk, by rw [← q]; exact q2⟩
  have memK : ∀ {us : List Value} {ks : List Str}, StrsAre us ks → ∀ {k : Str} {tk : Tok}, Value.str k tk ∈ us → k ∈ ks := by
    intro us ks h
    induction h with
    | nil => intro k tk h; cases h
    | cons x t' h ih =>
      intro k tk q
      rcases List.mem_cons.mp q with e | q
      · cases e
        exact List.mem_cons_self
      · exact List.mem_cons_of_mem _ (ih q)
  have pK : ks.Perm (mets xs) := perm_of (mets_nd xs) (fun k hk => by
    obtain ⟨e, he, q⟩ := (G.ok.mem k).mp hk
    obtain ⟨tk, q2⟩ := Value.isStrOf_shape (x := k) (v := e.2) q
    exact memK hK (tk := tk) (pm.mem_iff.mpr (List.mem_map.mpr ⟨e, he, q2⟩))) (by rw [← StrsAre.len_eq hK, hvl])
  refine wpAny_bind (wpAny_newList ?_ (by rw [hvl, sizeLine_eq]; omega))
  have hoL : (s1.heap.push (seqObj "list" vs.toArray 0)).get? s1.heap.objs.size = some (seqObj "list" vs.toArray 0) := Heap.get?_push_size _ rfl
  refine wpAny_bind (wpAny_holding (wpAny_call_entry slot_list_sort ⟨_, hoL, rfl⟩ entry_list_sort
    (list_sort_treeK strKind_oneLt hoL hK.keysOf (fun v₁ v₂ rest e => keyKind_strs (by rw [← e]; exact hK)) (by rw [hvl]; exact h64) fun st2 hp hs => ⟨_, rfl, ?_⟩) (args_list_sort _)))
  obtain ⟨ys, q1, q2, q3⟩ := sorted_out_str hK hp hs
  obtain ⟨c, hc⟩ := sortedHeap_at (vs := vs) (out := (arrOf st2).map (·.2)) hoL
  refine wpAny_pure ⟨_, rfl, fin _ s1.heap.objs.size _ c ys (fun b u e => ?_) g1 o1 hz hc q1 (q2.trans pK) q3⟩
  have q := k1 b u e
  have lt := Heap.lt_size q
  show (sortedHeap (s1.heap.push (seqObj "list" vs.toArray 0)) s1.heap.objs.size vs _).get? b = some u
  rw [sortedHeap_old (Nat.ne_of_lt lt) (by rw [size_push']; exact Nat.lt_succ_of_lt lt)]
  exact Heap.get?_push_of_some _ q
end
/-! ### by the IR -/
/-- what a set is made of -/
def TexV (K : PySem.W.Frag) (H : Hp) (x : V) (xs : List Str) : Prop := (∃ l, x = .ref l ∧ SqL K H l (xs.map V.str)) ∨ ∃ y : Str, x = .str y ∧ xs = sgs y
theorem Rep.texO {K : PySem.W.Frag} {H : Hp} {β : Bt} {M : MH} {d : D} {v : V} {l : List (List Nat)} (hp : HeapR K H β M) (r : Rep K H β M.length d v) (e : texD M d = some l) : TexV K H v (l.map mkS) := by
  by_cases hs : ∃ s, d = .str s
  · obtain ⟨s, rfl⟩ := hs
    have e' : (s.map fun c => [c]) = l := Option.some.inj e
    subst e'
    obtain ⟨_, rfl⟩ := r.strI
    refine .inr ⟨_, rfl, ?_⟩
    unfold sgs
    rw [List.map_map]
    rfl
  · have e2 : (tlOf M d).bind strsL = some l := by
      cases d with
      | str s => exact absurd ⟨s, rfl⟩ hs
      | _ => exact e
    obtain ⟨xs, e3, e4⟩ := Option.bind_eq_some_iff.mp e2
    obtain ⟨b, us, rfl, q2, r3⟩ := r.tlO hp e3
    have hv := r3.strsR e4
    subst hv
    exact .inl ⟨b, rfl, SqL.of q2⟩
section
variable {X : Cx} {W : WX} {xa : Nat → Addr} {hx : Option Hx} {η : Option (Nat × Flds)} {fa : LX.Env → MH → Res D} {a : Expr} {p p2 q pos : Pos}
/-- set(a), held by what comes behind -/
theorem run_set {pins : List (Addr × Obj)} {s : Shared} {σ : L2.St} {H : Hp} {x : V} {v : Value} {xs : List Str} {Q : Value → Shared → Prop} (hc : X.calm = true) (I : Inv X pins σ H s) (r : RelV x v) (t : TexV X.K H x xs) (few : xs.length < 1000)
    (fin : ∀ (h' : Heap) (tk : Nat), SetS X.prog X.w h' s.heap.objs.size xs → (∀ b o, s.heap.get? b = some o → h'.get? b = some o) → Q (.ref s.heap.objs.size) { s with heap := h', toks := tk }) :
    wpAny (model X.prog X.w) X.A (call (.type "set") [v]) Q X.xe s := by
  rcases t with ⟨l, rfl, hq⟩ | ⟨y, rfl, rfl⟩
  · cases r
    obtain ⟨its, r, pl, hz⟩ := I.list hq
    exact set_strs (I.ok.hd hc) pl.isList (by simpa using strsAre_of' r) (by unfold scanBound; omega) fun h' tk hS kept => fin h' tk hS fun b o e => kept b o (Heap.lt_size e) e
  · obtain ⟨u, rfl⟩ := r
    have few2 : y.cps.size < 1000 := by
      unfold sgs at few
      rw [List.length_map, Array.length_toList] at few
      exact few
    exact set_text (I.ok.hd hc) (by unfold scanBound; omega) fun h' tk hS kept => fin h' tk hS fun b o e => kept b o (Heap.lt_size e) e
theorem pe_lens (hc : X.calm = true) (hg : Gl X "len") (hm : X.mg "len" = none) (hg2 : Gl X "set") (hm2 : X.mg "set" = none) {ta : TE} (ha : PE X a ta) (na : starEach [a] X.env = (false, eval a X.env) :: starEach [] X.env) :
    PE X (.Call (.Name "len" p) [.Call (.Name "set" p2) [a] [] q] [] pos) (fun σ H Q => ta σ H fun x H1 => ∃ xs : List Str, TexV X.K H1 x xs ∧ xs.length < 1000 ∧ Q (.int (mets xs).length) H1) := by
  refine ⟨fun pins s σ H Q I h => Call_ (ld_blt I hg hm boot_len (PyProof.Rows.callWith_builtin1 (PyProof.Rows.args_cons ?_ rfl) rfl rfl))⟩
  refine Call_ (ld_blt I hg2 hm2 PyProof.Rows.boot_set (PyProof.Rows.callWith_type1 (PyProof.Rows.args_cons (thn (ha.run pins s σ H _ I h) fun v t ⟨x, H1, J, r1, xs, tx, few, q1⟩ => PyProof.Rows.args_nil ?_) na) na rfl))
  refine run_set hc J r1 tx few fun h' tk hS kept => PyProof.Rows.args_nil ?_
  obtain ⟨D, ho, G⟩ := hS
  have J2 : Inv X pins σ H1 { t with heap := h', toks := tk } := J.kept kept
  have few2 := mets_le xs
  exact call_len_set (o := sObj "set" D) ho ⟨rfl, rfl, rfl⟩ rfl G.ok.fit (by rw [G.ok.sz]; omega) ⟨.int (mets xs).length, H1, J2.tok _, ⟨_, by rw [G.ok.sz]⟩, q1⟩
theorem run_sorted {pins : List (Addr × Obj)} {s : Shared} {σ : L2.St} {H : Hp} {a : Addr} {xs : List Str} {Q : VK} (hc : X.calm = true) (J2 : Inv X pins σ H s) (hS : SetS X.prog X.w s.heap a xs) (h64 : (mets xs).length < 64)
    (q1 : ∀ (ys : List Str) (p : Addr), ys.Perm (mets xs) → sortedS ys = true → H p = none → Q (.ref p) (upd H p (.lst (ys.map V.str)))) :
    wpAny (model X.prog X.w) X.A (call (.builtin "sorted") [.ref a]) (EP X pins σ Q) X.xe s := by
  refine sort_setS (J2.ok.hd hc) hS h64 fun s2 p out c ys k g o hp hg hi pm so => ?_
  have hlen : (ys.map V.str).length ≤ sizeLine := by rw [List.length_map, pm.length_eq, sizeLine_eq]; omega
  have hn : H p = none := J2.hok.fresh hp
  have J3 : Inv X pins σ (upd H p (.lst (ys.map V.str))) { s with heap := s2.heap, gens := s2.gens, drawn := s2.drawn, toks := s2.toks } :=
    J2.call (ch := []) (Un.laid k hp hn) (J2.hok.laid k hp ⟨hlen, out.toList, c, vals_of_strs hi, hg⟩) (by rw [g]; exact J2.bare) (fun _ z => nomatch z)
  have e : s2 = { s with heap := s2.heap, gens := s2.gens, drawn := s2.drawn, toks := s2.toks } := by
    cases s2
    cases s
    cases o
    rfl
  rw [e]
  exact ⟨.ref p, _, J3, rfl, q1 ys p pm so hn⟩
theorem pe_srts (hc : X.calm = true) (hg : Gl X "sorted") (hm : X.mg "sorted" = none) (hg2 : Gl X "set") (hm2 : X.mg "set" = none) {ta : TE} (ha : PE X a ta) (na : starEach [a] X.env = (false, eval a X.env) :: starEach [] X.env) :
    PE X (.Call (.Name "sorted" p) [.Call (.Name "set" p2) [a] [] q] [] pos) (fun σ H Q => ta σ H fun x H1 => ∃ xs : List Str, TexV X.K H1 x xs ∧ xs.length < 1000 ∧ (mets xs).length < 64 ∧
      ∀ (ys : List Str) (p : Addr), ys.Perm (mets xs) → sortedS ys = true → H1 p = none → Q (.ref p) (upd H1 p (.lst (ys.map V.str)))) := by
  refine ⟨fun pins s σ H Q I h => Call_ (ld_blt I hg hm PyProof.Rows.boot_sorted (PyProof.Rows.callWith_builtin1 (PyProof.Rows.args_cons ?_ rfl) rfl rfl))⟩
  refine Call_ (ld_blt I hg2 hm2 PyProof.Rows.boot_set (PyProof.Rows.callWith_type1 (PyProof.Rows.args_cons (thn (ha.run pins s σ H _ I h) fun v t ⟨x, H1, J, r1, xs, tx, few, h64, q1⟩ => PyProof.Rows.args_nil ?_) na) na rfl))
  refine run_set hc J r1 tx few fun h' tk hS kept => PyProof.Rows.args_nil ?_
  exact run_sorted hc (s := { t with heap := h', toks := tk }) (J.kept kept) hS h64 q1
theorem d_lset (hc : X.calm = true) (hg : Gl X "len") (hm : X.mg "len" = none) (hg2 : Gl X "set") (hm2 : X.mg "set" = none) (ha : PE X a (tD X.K W xa hx η fa)) (hs : noStar a = true) :
    PE X (.Call (.Name "len" p) [.Call (.Name "set" p2) [a] [] q] [] pos) (tD X.K W xa hx η fun ρ M => (fa ρ M).bind fun x M => (ofO (texD M x) M).bind fun l M => if l.length < 1000 then .ok (.int (dist l.reverse).length) M else .stuck) :=
  PE.imp (pe_lens hc hg hm hg2 hm2 ha (star1 (noStar_ne hs))) fun σ H Q h => tR.seq h fun β ρ M x v H1 sr r1 h1 => by
    obtain ⟨l, e1, h1⟩ := h1.ofO
    obtain ⟨few, h1⟩ := Post.ite h1
    refine ⟨l.map mkS, r1.texO sr.heap e1, by rw [List.length_map]; exact few, ?_⟩
    rw [mets_dist, List.length_map]
    exact h1.okR sr.heap (show RD X.K H1 β M.length (D.int _) (V.int _) from rfl)
theorem Reps.ofStrs {K : PySem.W.Frag} {H : Hp} {β : Bt} {N : Nat} : ∀ {l : List (List Nat)}, (∀ s ∈ l, s.length ≤ lim) → Reps K H β N (l.map D.str) ((l.map mkS).map V.str)
  | [], _ => rfl
  | s :: l, h => by
    unfold Reps
    exact ⟨_, _, rfl, Rep.mkStr (h s List.mem_cons_self), Reps.ofStrs fun t q => h t (List.mem_cons_of_mem _ q)⟩
theorem d_srts (hc : X.calm = true) (hg : Gl X "sorted") (hm : X.mg "sorted" = none) (hg2 : Gl X "set") (hm2 : X.mg "set" = none) (ha : PE X a (tD X.K W xa hx η fa)) (hs : noStar a = true) :
    PE X (.Call (.Name "sorted" p) [.Call (.Name "set" p2) [a] [] q] [] pos) (tD X.K W xa hx η fun ρ M => (fa ρ M).bind fun x M => (ofO (texD M x) M).bind fun l M => if decide (l.length < 1000) && (oneL l && decide ((dist l.reverse).length < 64)) then .ok (.tl ((srtT l.reverse).map .str)) M else .stuck) :=
  PE.imp (pe_srts hc hg hm hg2 hm2 ha (star1 (noStar_ne hs))) fun σ H Q h => tR.seq h fun β ρ M x v H1 sr r1 h1 => by
    obtain ⟨l, e1, h1⟩ := h1.ofO
    obtain ⟨few, h1⟩ := Post.ite h1
    rw [Bool.and_eq_true, Bool.and_eq_true, decide_eq_true_eq, decide_eq_true_eq] at few
    obtain ⟨f1, f2, f3⟩ := few
    refine ⟨l.map mkS, r1.texO sr.heap e1, by rw [List.length_map]; exact f1, by rw [mets_dist, List.length_map]; exact f3, fun ys p pm so hn => ?_⟩
    rw [mets_dist] at pm
    have or : oneL l.reverse = true := by
      have all1 : ∀ {l : List (List Nat)}, (∀ s ∈ l, ∃ c, s = [c]) → oneL l = true := by
        intro l
        induction l with
        | nil => exact fun _ => rfl
        | cons s l ih =>
          intro h
          obtain ⟨c, rfl⟩ := h s List.mem_cons_self
          exact ih fun t q => h t (List.mem_cons_of_mem _ q)
      exact all1 fun s q => oneL_all f2 s (List.mem_reverse.mp q)
    have e := srt_of or pm so
    subst e
    have h2 : Post X.K W xa (RD X.K) σ H1 β M.length (newL false ((srtT l.reverse).map .str) M) Q := h1
    exact h2.newL sr.heap (Reps.ofStrs fun s q => by
      unfold srtT at q
      obtain ⟨i, _, rfl⟩ := List.mem_map.mp q
      exact (by decide : 1 ≤ lim)) p hn
end
end LX

set_option Elab.async false
set_option linter.all false
set_option maxRecDepth 100000
set_option maxHeartbeats 2000000
/-! LxTex: a text's methods; the empty dict. -/
namespace LX
open PySem L2 PyProof.Rows
def smN : Sm → Str
  | .split => "split" | .strip => "strip" | .starts => "startswith" | .ends => "endswith"
theorem splC_spl (c : Nat) : ∀ (l acc : List Nat), TL.spl [c] 0 acc l = splC c acc l
  | [], acc => by simp [TL.spl, splC]
  | x :: r, acc => by
    unfold TL.spl splC
    have e : TL.pre [c] (x :: r) = decide (x = c) := by
      show ((x :: r).take 1 == [c]) = _
      rw [Bool.eq_iff_iff]
      simp
    rw [e]
    by_cases h : x = c
    · rw [if_pos h, if_pos (decide_eq_true h)]
      show acc :: TL.spl [c] 0 [] r = _
      rw [splC_spl c r []]
    · rw [if_neg h, if_neg (by simp [h])]
      exact splC_spl c r _
theorem splC_le (c : Nat) : ∀ (l acc : List Nat), (∀ s ∈ splC c acc l, s.length ≤ acc.length + l.length)
  | [], acc, s, h => by
    have : s = acc := by simpa [splC] using h
    subst this
    simp
  | x :: r, acc, s, h => by
    unfold splC at h
    split at h
    · rcases List.mem_cons.mp h with rfl | h
      · omega
      · have := splC_le c r [] s h
        simp at this ⊢
        omega
    · have := splC_le c r _ s h
      simp at this ⊢
      omega
section
open PySem.Builtin PySem.Builtin.Str
theorem dw_tw (p : Nat → Bool) : ∀ l : List Nat, l.dropWhile p = l.drop (l.takeWhile p).length
  | [] => rfl
  | c :: r => by
    by_cases h : p c = true
    · rw [List.dropWhile_cons, if_pos h, List.takeWhile_cons, if_pos h, List.length_cons, List.drop_succ_cons]
      exact dw_tw p r
    · rw [List.dropWhile_cons, if_neg h, List.takeWhile_cons, if_neg h] <;> rfl
theorem strip_by (p : Nat → Bool) (s : List Nat) : Txt.stripBy p true true ⟨s.toArray⟩ = ⟨(((s.dropWhile p).reverse.dropWhile p).reverse).toArray⟩ := by
  have e : Txt.stripBy p true true ⟨s.toArray⟩ = stripped p true true ⟨s.toArray⟩ := by
    unfold Txt.stripBy
    split
    · rename_i h
      unfold stripSame at h
      rw [Bool.and_eq_true, beq_iff_eq, beq_iff_eq] at h
      unfold stripped
      rw [h.2, h.1]
      unfold Builtin.Str.strSub
      simp [Str.length]
    · rfl
  rw [e]
  have hlo : stripLo p true ⟨s.toArray⟩ = (s.takeWhile p).length := by
    unfold stripLo
    rw [if_pos rfl]
  have hl : (s.takeWhile p).length ≤ s.length := (List.takeWhile_sublist p).length_le
  unfold stripped
  have hhi : stripHi p true ⟨s.toArray⟩ (s.takeWhile p).length = s.length - ((s.drop (s.takeWhile p).length).reverse.takeWhile p).length := by
    unfold stripHi
    rw [if_pos rfl]
    simp [Str.length]
  rw [hlo, hhi, dw_tw p s, dw_tw p (List.reverse _)]
  generalize (s.takeWhile p).length = n at hl ⊢
  generalize ((s.drop n).reverse.takeWhile p).length = k
  unfold Builtin.Str.strSub
  congr 1
  apply Array.ext'
  simp only [Array.toList_extract, List.extract_eq_take_drop]
  rw [List.drop_reverse, List.reverse_reverse, List.length_drop]
  congr 1
  omega
theorem strip_S (s t : List Nat) : Txt.stripChars ⟨s.toArray⟩ ⟨t.toArray⟩ = ⟨(stripL t s).toArray⟩ := by
  have hg : (⟨t.toArray⟩ : Str).cps.contains = fun c => decide (c ∈ t) := by
    funext c
    show t.toArray.contains c = _
    rw [Bool.eq_iff_iff]
    simp
  unfold Txt.stripChars
  rw [hg, strip_by]
  rfl
theorem stripL_le (t s : List Nat) : (stripL t s).length ≤ s.length := by
  unfold stripL
  rw [List.length_reverse, dw_tw, List.length_drop, List.length_reverse, dw_tw, List.length_drop]
  omega
theorem starts_S (s t : List Nat) : Txt.startswith ⟨s.toArray⟩ ⟨t.toArray⟩ = (s.take t.length == t) := by
  unfold Txt.startswith Builtin.Str.subAt Str.length
  rw [Bool.eq_iff_iff]
  simp only [Bool.and_eq_true, decide_eq_true_eq, beq_iff_eq, List.size_toArray, List.extract_toArray, List.extract_eq_drop_take, Array.mk.injEq]
  simp
  intro h
  have := congrArg List.length h
  simp at this
  omega
theorem ends_S (s t : List Nat) : Txt.endswith ⟨s.toArray⟩ ⟨t.toArray⟩ = (decide (t.length ≤ s.length) && s.drop (s.length - t.length) == t) := by
  unfold Txt.endswith Builtin.Str.subAt Str.length
  rw [Bool.eq_iff_iff]
  simp only [Bool.and_eq_true, decide_eq_true_eq, beq_iff_eq, List.size_toArray]
  constructor
  · intro ⟨h1, h2⟩
    refine ⟨by omega, ?_⟩
    have h3 := congrArg Array.toList h2
    simp only [Array.toList_extract, List.extract_eq_take_drop] at h3
    rw [List.take_of_length_le (by rw [List.length_drop]; omega)] at h3
    exact h3
  · intro ⟨h1, h2⟩
    refine ⟨by omega, ?_⟩
    apply Array.ext'
    simp only [Array.toList_extract, List.extract_eq_take_drop]
    rw [List.take_of_length_le (by rw [List.length_drop]; omega)]
    exact h2
end
section
variable {X : Cx} {W : WX} {xa : Nat → Addr} {hx : Option Hx} {η : Option (Nat × Flds)} {fa fb : LX.Env → MH → Res D} {o e : Expr} {apos cpos pos : Pos}
theorem d_sm {m : Bool} {k : Sm} (ho : PE X o (tD X.K W xa hx η fa)) (he : PE X e (tD X.K W xa hx η fb)) (hb : okBase o = true) (hl : (apos.endLine == cpos.line) = true) (hs : noStar e = true) :
    PE X (.Call (.Attribute o (smN k) apos) [e] [] cpos) (tD X.K W xa hx η fun ρ M => (fa ρ M).bind fun x M => if isStrD x then (fb ρ M).bind fun y M => smD m k M x y else .stuck) := by
  cases k with
  | split =>
    exact PE.imp (pe_m1 PySem.F.slot_str_split PySem.F.type_str_split mt_split ho he (star1 (noStar_ne hs)) (base_of hb) hl) fun σ H Q h => tR.seq h fun β ρ M x v H1 sr r1 h1 => by
      obtain ⟨hi, h1⟩ := Post.ite h1
      cases x with
      | str s =>
        obtain ⟨hz, rfl⟩ := r1.strI
        refine ⟨⟨_, rfl⟩, tR.seq2 sr h1 fun β2 M2 y u H2 sr2 mo _ r2 h2 => ?_⟩
        cases y with
        | str t =>
          obtain ⟨_, rfl⟩ := r2.strI
          match t, r2, h2 with
          | [], _, h2 => exact h2.elim
          | [c], _, h2 =>
            have h3 : Post X.K W xa (RD X.K) σ H2 β2 M2.length (if (decide (c < 256) && decide (s.length + 2 ≤ lim)) = true then newL m ((splC c [] s).map .str) M2 else .stuck) Q := h2
            obtain ⟨hc, h3⟩ := Post.ite h3
            rw [Bool.and_eq_true, decide_eq_true_eq, decide_eq_true_eq] at hc
            refine ⟨_, _, rfl, rfl, rfl, by rw [len_str_arr, lim_eq]; exact hc.2, fun p hp => ?_⟩
            have es : Txt.split (⟨s.toArray⟩ : Str) ⟨[c].toArray⟩ = (splC c [] s).map mkS := by
              have q := SX.split_S (a := s) (b := [c]) (by simp) (by simp [hc.1])
              rw [splC_spl] at q
              exact q
            rw [es]
            exact h3.newL sr2.heap (Reps.ofStrs fun t q => by
              have := splC_le c s [] t q
              simp at this
              omega) p hp
          | _ :: _ :: _, _, h2 => exact h2.elim
        | _ => exact h2.elim
      | _ => cases hi
  | strip =>
    exact PE.imp (pe_m1 PySem.F.slot_str_strip PySem.F.type_str_strip mt_stripChars ho he (star1 (noStar_ne hs)) (base_of hb) hl) fun σ H Q h => tR.seq h fun β ρ M x v H1 sr r1 h1 => by
      obtain ⟨hi, h1⟩ := Post.ite h1
      cases x with
      | str s =>
        obtain ⟨hz, rfl⟩ := r1.strI
        refine ⟨⟨_, rfl⟩, tR.seq2 sr h1 fun β2 M2 y u H2 sr2 mo _ r2 h2 => ?_⟩
        cases y with
        | str t =>
          obtain ⟨_, rfl⟩ := r2.strI
          refine ⟨_, _, rfl, rfl, by rw [len_str_arr, lim_eq]; exact hz, ?_⟩
          rw [strip_S]
          exact h2.okv sr2.heap (.mkStr (Nat.le_trans (stripL_le t s) hz))
        | _ => exact h2.elim
      | _ => cases hi
  | starts =>
    exact PE.imp (pe_m1 PySem.F.slot_str_startswith PySem.F.type_str_startswith mt_startswith ho he (star1 (noStar_ne hs)) (base_of hb) hl) fun σ H Q h => tR.seq h fun β ρ M x v H1 sr r1 h1 => by
      obtain ⟨hi, h1⟩ := Post.ite h1
      cases x with
      | str s =>
        obtain ⟨hz, rfl⟩ := r1.strI
        refine ⟨⟨_, rfl⟩, tR.seq2 sr h1 fun β2 M2 y u H2 sr2 mo _ r2 h2 => ?_⟩
        cases y with
        | str t =>
          obtain ⟨_, rfl⟩ := r2.strI
          refine ⟨_, _, rfl, rfl, ?_⟩
          rw [starts_S]
          exact h2.okv sr2.heap (show RD X.K H2 β2 M2.length (D.bl _) (V.bl _) from rfl)
        | _ => exact h2.elim
      | _ => cases hi
  | ends =>
    exact PE.imp (pe_m1 PySem.F.slot_str_endswith PySem.F.type_str_endswith mt_endswith ho he (star1 (noStar_ne hs)) (base_of hb) hl) fun σ H Q h => tR.seq h fun β ρ M x v H1 sr r1 h1 => by
      obtain ⟨hi, h1⟩ := Post.ite h1
      cases x with
      | str s =>
        obtain ⟨hz, rfl⟩ := r1.strI
        refine ⟨⟨_, rfl⟩, tR.seq2 sr h1 fun β2 M2 y u H2 sr2 mo _ r2 h2 => ?_⟩
        cases y with
        | str t =>
          obtain ⟨_, rfl⟩ := r2.strI
          refine ⟨_, _, rfl, rfl, ?_⟩
          rw [ends_S]
          exact h2.okv sr2.heap (show RD X.K H2 β2 M2.length (D.bl _) (V.bl _) from rfl)
        | _ => exact h2.elim
      | _ => cases hi
theorem d_edic : PE X (.Dict [] [] pos) (tD X.K W xa hx η fun _ M => .ok (.edic []) M) :=
  PE.imp pe_dnewK fun σ H Q h p hp => by
    obtain ⟨β, ρ, M, sr, h⟩ := h
    exact Post.edic sr.heap h p hp
theorem d_bad : PE X e (tD X.K W xa hx η fun _ _ => .stuck) :=
  ⟨fun pins s σ H Q I h => by
    obtain ⟨β, ρ, M, sr, h⟩ := h
    exact h.elim⟩
end
end LX

set_option Elab.async false
set_option linter.all false
set_option maxRecDepth 100000
set_option maxHeartbeats 2000000
/-! LxTab: the module's constants; its tables with text keys, read by get. -/
namespace LX
open PySem L2 PyProof.Rows
/-- how a constant of the module stands -/
def ConR (K : PySem.W.Frag) (u : Value) (d : D) : Prop := ∃ v, RelV v u ∧ ∀ H β N, Rep K H β N d v
/-- a table's entries -/
def TEs (w : World) (K : PySem.W.Frag) : List DictEntry → List (List Nat × D) → Prop
  | [], [] => True
  | e :: es, (s, d) :: r => ((∃ t, e.key = .str ⟨s.toArray⟩ t) ∧ e.hash = PyData.keyHash w.params ⟨s.toArray⟩ ∧ ConR K e.val d) ∧ TEs w K es r
  | _, _ => False
def TabR (w : World) (K : PySem.W.Frag) (a : Addr) (kvs : List (List Nat × D)) : Prop := ∃ es n, K.lookup a = some ⟨.type "dict", none, .dict es n, #[]⟩ ∧ (a == sysModules) = false ∧ TEs w K es.toList kvs
theorem tes_lit {w : World} {K : PySem.W.Frag} : ∀ {es : List DictEntry} {kvs : List (List Nat × D)}, TEs w K es kvs → PySem.W.KeysLit w.params es
  | [], [], _ => trivial
  | e :: es, (s, d) :: r, ⟨⟨⟨t, h1⟩, h2, _⟩, h4⟩ => ⟨⟨_, t, h1, h2⟩, tes_lit h4⟩
theorem te_nil {w : World} {K : PySem.W.Frag} : TEs w K [] [] := trivial
theorem te_cons {w : World} {K : PySem.W.Frag} {z : Str} {s : List Nat} {t : Tok} {u : Value} {d : D} {es : List DictEntry} {kvs : List (List Nat × D)} (h : z = ⟨s.toArray⟩) (c : ConR K u d) (r : TEs w K es kvs) : TEs w K (⟨PyData.keyHash w.params z, .str z t, u⟩ :: es) ((s, d) :: kvs) := by
  subst h
  exact ⟨⟨⟨t, rfl⟩, rfl, c⟩, r⟩
theorem arr_beq (s z : List Nat) : ((⟨s.toArray⟩ : Str) == ⟨z.toArray⟩) = (s == z) := by
  rw [Bool.eq_iff_iff, beq_iff_eq, beq_iff_eq]
  constructor
  · intro h
    injection h with h
    simpa using h
  · rintro rfl
    rfl
theorem tes_find {w : World} {K : PySem.W.Frag} (z : List Nat) : ∀ {es : List DictEntry} {kvs : List (List Nat × D)}, TEs w K es kvs → match kvs.lookup z with
    | some d => ∃ u, (es.find? fun e => Value.isStrOf ⟨z.toArray⟩ e.key).map (·.val) = some u ∧ ConR K u d
    | none => (es.find? fun e => Value.isStrOf ⟨z.toArray⟩ e.key).map (·.val) = none
  | [], [], _ => rfl
  | e :: es, (s, d) :: r, ⟨⟨⟨t, h1⟩, h2, h3⟩, h4⟩ => by
    have ih := tes_find z h4
    have hk : Value.isStrOf ⟨z.toArray⟩ e.key = (s == z) := by
      rw [h1]
      show ((⟨s.toArray⟩ : Str) == ⟨z.toArray⟩) = _
      exact arr_beq s z
    by_cases h : s = z
    · subst h
      rw [beq_self_eq_true] at hk
      have e1 : List.lookup s ((s, d) :: r) = some d := by simp [List.lookup]
      rw [e1]
      refine ⟨e.val, ?_, h3⟩
      rw [List.find?_cons, hk]
      rfl
    · have hb : (s == z) = false := beq_eq_false_iff_ne.mpr h
      have e1 : List.lookup z ((s, d) :: r) = List.lookup z r := by
        have hb2 : (z == s) = false := beq_eq_false_iff_ne.mpr fun q => h q.symm
        simp only [List.lookup, hb2]
      rw [hb] at hk
      rw [e1, List.find?_cons, hk]
      exact ih
section
variable {X : Cx} {W : WX} {xa : Nat → Addr} {hx : Option Hx} {η : Option (Nat × Flds)} {fa fb : LX.Env → MH → Res D} {e f : Expr} {apos cpos np : Pos}
theorem d_tget {x : Str} {p : Addr} {kvs : List (List Nat × D)} (hg : Gl X x) (hm : X.mg x = some (.ref p)) (hd : (x == ("__debug__" : Str)) = false) (R : TabR X.w X.K p kvs) (he : PE X e (tD X.K W xa hx η fa)) (hf : PE X f (tD X.K W xa hx η fb))
    (hl : (apos.endLine == cpos.line) = true) (hst : [e, f].all noStar = true) :
    PE X (.Call (.Attribute (.Name x np) "get" apos) [e, f] [] cpos) (tD X.K W xa hx η fun ρ M => (fa ρ M).bind fun y M => if isStrD y then (fb ρ M).bind fun z M => .ok (tgetD kvs y z) M else .stuck) := by
  obtain ⟨es, n, hk, lo, ht⟩ := R
  refine ⟨fun pins s σ H Q I h => ?_⟩
  have hst2 := hst
  simp only [List.all_cons, List.all_nil, Bool.and_true, Bool.and_eq_true] at hst2
  have trees : backTo cpos (starEach [e, f] X.env) = [(false, eval e X.env), (false, eval f X.env)] := by
    rw [star1 (noStar_ne hst2.1), star1 (noStar_ne hst2.2)]
    rfl
  have mo : ∀ {H : Hp} {s : Shared}, Inv X pins σ H s → s.heap.MapOf (PySem.strKind X.prog X.w) p (fun k => findBy Value.isStrOf es k) := fun I => PySem.W.mapOf_K (prog := X.prog) I.kIn hk (tes_lit ht)
  refine wpAny_Call_method (base_of (o := .Name x np) rfl) (few_of hst (by show 2 < 29; omega)) hl PySem.F.plainAttrs_dict PySem.F.slot_dict_get PySem.F.type_dict_get (thn ((pe_glob (v := .ref p) hg hm rfl hd).run pins s σ H (fun v H1 => v = .ref p ∧ tD X.K W xa hx η (fun ρ M => (fa ρ M).bind fun y M => if isStrD y then (fb ρ M).bind fun z M => .ok (tgetD kvs y z) M else .stuck) σ H1 Q) I ⟨rfl, h⟩) fun u s1 ⟨v, H1, I1, rx, ev, q1⟩ => ?_)
  subst ev
  obtain rfl : u = Value.ref p := rx
  refine ⟨(mo I1).typeIs, fun b q => ?_, ?_⟩
  · cases q
    exact ⟨_, I1.kIn _ _ hk, rfl⟩
  rw [trees]
  have q1' : tR RD X.K W xa hx η fa σ H1 (fun (v : V) H1 => tR RD X.K W xa hx η fb σ H1 fun v2 H2 => ∃ z : List Nat, v = V.str ⟨z.toArray⟩ ∧ (∀ o : Option D, kvs.lookup z = o → match o with
      | some d => ∀ w, (∀ H β N, Rep X.K H β N d w) → Q w H2
      | none => Q v2 H2)) := tR.seq q1 (fun β ρ M y v H1 sr r1 h1 => by
    obtain ⟨hi, h1⟩ := Post.ite h1
    cases y with
    | str z =>
      obtain ⟨hz, rfl⟩ := r1.strI
      refine tR.seq2 sr h1 fun β2 M2 d2 v2 H2 sr2 mo _ r2 h2 => ⟨z, rfl, fun o ho => ?_⟩
      have h3 : Post X.K W xa (RD X.K) σ H2 β2 M2.length (.ok ((kvs.lookup z).getD d2) M2) Q := h2
      rw [ho] at h3
      cases o with
      | none => exact h3.okv sr2.heap r2
      | some d => exact fun w hw => h3.okv sr2.heap (hw H2 β2 M2.length)
    | _ => cases hi)
  refine Calls.callWith_builtin rfl (Calls.evalArgs_plain (Calls.spliced_cons (thn (he.run pins s1 σ H1 _ I1 q1') fun iv s2 ⟨y, H2, I2, ry, q2⟩ =>
    Calls.spliced_cons (thn (hf.run pins s2 σ H2 _ I2 q2) fun fv s3 ⟨z, H3, I3, rz, zz, ey, q3⟩ => Calls.spliced_nil ?_))))
  subst ey
  obtain ⟨t, rfl⟩ := ry
  refine call_meetsIn PySem.F.slot_dict_get (mo I3).typeIs PySem.F.entry_dict_get (PySem.F.args_dict_get_3 _ _ _) (meets_dict_get_default (PySem.strKind X.prog X.w) p (PySem.strKind_is X.prog X.w _ t) lo fv) ⟨_, mo I3, ?_⟩
  have fe : findBy Value.isStrOf es (⟨zz.toArray⟩ : Str) = (es.toList.find? fun e => Value.isStrOf ⟨zz.toArray⟩ e.key).map (·.val) := by
    unfold findBy
    rw [← Array.find?_toList]
  have tf := tes_find (z := zz) ht
  rw [fe]
  cases o : kvs.lookup zz with
  | none =>
    rw [o] at tf
    have tf' : (es.toList.find? fun e => Value.isStrOf ⟨zz.toArray⟩ e.key).map (·.val) = none := tf
    rw [tf']
    exact ⟨z, H3, I3.tok _, rz, q3 _ o⟩
  | some d =>
    rw [o] at tf
    obtain ⟨u, e1, v, e2, e3⟩ := tf
    rw [e1]
    exact ⟨v, H3, I3.tok _, e2, q3 _ o v e3⟩
end
end LX

set_option Elab.async false
set_option linter.all false
set_option maxRecDepth 100000
set_option maxHeartbeats 2000000
/-! LxDix: a display of constants under texts, read at once by a key. -/
namespace LX
open PySem L2 PyProof.Rows
theorem Post.from {α A : Type} {K : PySem.W.Frag} {W : WX} {xa : Nat → Addr} {R : Hp → Bt → Nat → α → A → Prop} {σ : L2.St} {H H1 : Hp} {β β1 : Bt} {N N1 : Nat} {r : Res α} {Q : A → Hp → Prop} (e : Ext β N H β1 N1 H1) (h : Post K W xa R σ H β N r Q) : Post K W xa R σ H1 β1 N1 r Q := by
  cases r with
  | ok d M' => exact fun β' H' v e' p q => h β' H' v (e.trans e') p q
  | exn c fs M' => exact fun β' H' dx fvs e' p q z => h β' H' dx fvs (e.trans e') p q z
  | stuck => exact h
def cV : D → V
  | .int i => .int i
  | .str s => .str ⟨s.toArray⟩
  | _ => .non
def cfE : Expr → D → Bool
  | .Constant (.int i) _ _, .int j => decide (i = j)
  | .Constant (.str z) _ _, .str s => decide (z = ⟨s.toArray⟩) && decide (s.length ≤ lim)
  | _, _ => false
def dixC : List (Option Expr) → List Expr → List (List Nat × D) → Bool
  | [], [], [] => true
  | some (.Constant (.str z) _ _) :: ks, v :: vs, (s, d) :: r => decide (z = ⟨s.toArray⟩) && (cfE v d && dixC ks vs r)
  | _, _, _ => false
def nodupK : List (List Nat × D) → Bool
  | [] => true
  | (s, _) :: r => (r.lookup s).isNone && nodupK r
def kvsV (kvs : List (List Nat × D)) : List (Key × V) := kvs.map fun p => (Sum.inr ⟨p.1.toArray⟩, cV p.2)
def trsV (kvs : List (List Nat × D)) : List (TE × TE) := kvs.map fun p => (tC (.str ⟨p.1.toArray⟩), tC (cV p.2))
section
variable {X : Cx} {W : WX} {xa : Nat → Addr} {hx : Option Hx} {η : Option (Nat × Flds)} {fa : LX.Env → MH → Res D} {i : Expr} {pos dpos : Pos}
theorem cf_pe {e : Expr} {d : D} (h : cfE e d = true) : PE X e (tC (cV d)) := by
  unfold cfE at h
  split at h
  · cases of_decide_eq_true h
    exact pe_int
  · rw [Bool.and_eq_true, decide_eq_true_eq] at h
    obtain ⟨rfl, _⟩ := h
    exact pe_str
  · cases h
theorem cf_rep {e : Expr} {d : D} (h : cfE e d = true) {K : PySem.W.Frag} {H : Hp} {β : Bt} {N : Nat} : Rep K H β N d (cV d) := by
  unfold cfE at h
  split at h
  · exact rfl
  · rw [Bool.and_eq_true, decide_eq_true_eq, decide_eq_true_eq] at h
    exact Rep.mkStr h.2
  · cases h
theorem dix_pps : ∀ {ks : List (Option Expr)} {vs : List Expr} {kvs : List (List Nat × D)}, dixC ks vs kvs = true → PPs X dpos ks vs (trsV kvs) ∧ (ks.all fun x => x.isSome) = true ∧ ks.length = vs.length ∧ ks.length = kvs.length ∧ ∀ p ∈ kvs, ∃ e, cfE e p.2 = true
  | ks, vs, kvs, h => by
    unfold dixC at h
    split at h
    · exact ⟨pps_nil, rfl, rfl, rfl, fun p hp => by cases hp⟩
    · rename_i z j p ks v vs s d r
      rw [Bool.and_eq_true, Bool.and_eq_true, decide_eq_true_eq] at h
      obtain ⟨rfl, h1, h2⟩ := h
      obtain ⟨a, b, c, e, f⟩ := dix_pps h2
      refine ⟨pps_cons pe_str (cf_pe h1) a, by simpa using b, by simp [c], by simp [e], fun q hq => ?_⟩
      rcases List.mem_cons.mp hq with rfl | hq
      · exact ⟨v, h1⟩
      · exact f q hq
    · cases h
theorem tPairs_c : ∀ {kvs : List (List Nat × D)} {σ : L2.St} {H : Hp} {Q : List (V × V) → Hp → Prop}, Q ((kvsV kvs).map fun kv => (kV kv.1, kv.2)) H → tPairs (trsV kvs) σ H Q
  | [], _, _, _, h => h
  | (s, d) :: r, σ, H, Q, h => tPairs_c (kvs := r) (σ := σ) (H := H) (Q := fun ps H3 => Q ((.str ⟨s.toArray⟩, cV d) :: ps) H3) h
theorem key_beq (s z : List Nat) : decide ((Sum.inr (⟨s.toArray⟩ : Str) : Key) = Sum.inr ⟨z.toArray⟩) = (s == z) := by
  rw [Bool.eq_iff_iff, decide_eq_true_eq, beq_iff_eq]
  constructor
  · intro h
    injection h with h
    injection h with h
    simpa using h
  · rintro rfl
    rfl
theorem valV_kvs (z : List Nat) : ∀ kvs : List (List Nat × D), valV (kvsV kvs) (Sum.inr ⟨z.toArray⟩) = (kvs.lookup z).map cV
  | [] => rfl
  | (s, d) :: r => by
    have ih := valV_kvs z r
    unfold valV at ih ⊢
    show Option.map (fun x : Key × V => x.2) (List.find? (fun kv : Key × V => decide (kv.1 = Sum.inr ⟨z.toArray⟩)) ((Sum.inr ⟨s.toArray⟩, cV d) :: kvsV r)) = _
    rw [List.find?_cons]
    have k := key_beq s z
    by_cases h : s = z
    · subst h
      rw [beq_self_eq_true] at k
      dsimp only
      rw [k]
      simp [List.lookup]
    · have hb : (s == z) = false := beq_eq_false_iff_ne.mpr h
      have hb2 : (z == s) = false := beq_eq_false_iff_ne.mpr fun q => h q.symm
      rw [hb] at k
      dsimp only
      rw [k]
      simp only [List.lookup, hb2]
      exact ih
theorem merge_kvs : ∀ (kvs acc : List (List Nat × D)), nodupK kvs = true → (∀ p ∈ kvs, acc.lookup p.1 = none) → mergeK (kvsV acc) (kvsV kvs) = kvsV (acc ++ kvs)
  | [], acc, _, _ => by rw [List.append_nil]; rfl
  | (s, d) :: r, acc, h, ha => by
    have h' : ((r.lookup s).isNone && nodupK r) = true := h
    rw [Bool.and_eq_true, Option.isNone_iff_eq_none] at h'
    have e1 : putK (kvsV acc) (Sum.inr ⟨s.toArray⟩) (cV d) = kvsV (acc ++ [(s, d)]) := by
      rw [putK_new _ (by rw [valV_kvs, ha (s, d) List.mem_cons_self]; rfl)]
      simp [kvsV]
    show mergeK (putK (kvsV acc) (Sum.inr ⟨s.toArray⟩) (cV d)) (kvsV r) = _
    rw [e1, merge_kvs r (acc ++ [(s, d)]) h'.2 (fun p hp => ?_)]
    · rw [List.append_assoc]
      rfl
    · have ne : p.1 ≠ s := fun e => by
        have : (r.lookup s).isSome = true := by
          rw [List.lookup_isSome_iff]
          exact ⟨p, hp, by rw [e]; simp⟩
        rw [h'.1] at this
        cases this
      rw [List.lookup_append, ha p (List.mem_cons_of_mem _ hp)]
      have nb : (p.1 == s) = false := beq_eq_false_iff_ne.mpr ne
      simp [List.lookup, nb]
theorem d_dix {ks : List (Option Expr)} {vs : List Expr} {kvs : List (List Nat × D)} (hc : dixC ks vs kvs = true) (hn : nodupK kvs = true) (h0 : kvs ≠ []) (h15 : kvs.length ≤ 15) (hu : X.A.units + 1 < cLine) (hs : NoSl i) (hi : PE X i (tD X.K W xa hx η fa)) :
    PE X (.Subscript (.Dict ks vs dpos) i pos) (tD X.K W xa hx η fun ρ M => (fa ρ M).bind fun x M => ofO (dixD kvs x) M) := by
  obtain ⟨p1, p2, p3, p4, p5⟩ := dix_pps (X := X) (dpos := dpos) hc
  refine PE.imp (pe_dget hu (pe_disp p1 p2 p3 (fun z => h0 (List.length_eq_zero_iff.mp (by rw [← p4, z]; rfl))) (by omega)) hi hs) fun σ H Q h => ?_
  obtain ⟨β, ρ, M, sr, h⟩ := h
  intro p hp
  refine tPairs_c ⟨upd_same, kvsV kvs, rfl, by unfold kvsV; rw [List.length_map]; exact h15, ?_⟩
  have em : mergeK [] (kvsV kvs) = kvsV kvs := merge_kvs kvs [] hn fun _ _ => rfl
  rw [em]
  have e0 : Ext β M.length H β M.length (upd (upd H p (.dK [])) p (.dK (kvsV kvs))) := by
    have : upd (upd H p (.dK [])) p (.dK (kvsV kvs)) = upd H p (.dK (kvsV kvs)) := upd_upd
    rw [this]
    exact Ext.fresh hp
  have hq0 : HeapR X.K (upd (upd H p (.dK [])) p (.dK (kvsV kvs))) β M := by
    have : upd (upd H p (.dK [])) p (.dK (kvsV kvs)) = upd H p (.dK (kvsV kvs)) := upd_upd
    rw [this]
    exact sr.heap.fresh hp
  have no : ∀ n, n < M.length → β n ≠ p := fun n hl z => by
    obtain ⟨ws, q⟩ := sr.heap.lt_of hl
    rw [z, hp] at q
    cases q
  have sr0 := sr.mono e0 hq0
  refine ⟨β, ρ, M, sr0, (h.from e0).bind.mono fun v H1 ⟨β1, M1, x, e1, hp1, r1, h1⟩ => ?_⟩
  have hd : H1 p = some (.dK (kvsV kvs)) := e1.fr p _ upd_same no
  cases ex : dixD kvs x with
  | none =>
    rw [ex] at h1
    exact h1.elim
  | some d =>
    rw [ex] at h1
    cases x with
    | str s =>
      obtain ⟨_, rfl⟩ := r1.strI
      have el : kvs.lookup s = some d := ex
      obtain ⟨e, he⟩ := p5 (s, d) (by
        have : ∀ l : List (List Nat × D), l.lookup s = some d → (s, d) ∈ l := fun l => by
          induction l with
          | nil => intro h; cases h
          | cons q l ih =>
            obtain ⟨a, b⟩ := q
            intro h
            by_cases hz : s = a
            · subst hz
              have z : some b = some d := by simpa [List.lookup] using h
              injection z with z
              subst z
              exact List.mem_cons_self
            · have nb : (s == a) = false := beq_eq_false_iff_ne.mpr hz
              have z : l.lookup s = some d := by simpa [List.lookup, nb] using h
              exact List.mem_cons_of_mem _ (ih z)
        exact this kvs el)
      refine ⟨p, cV d, rfl, .inl ⟨kvsV kvs, .inr ⟨s.toArray⟩, .inl hd, rfl, ?_⟩, h1.okv hp1 (cf_rep he)⟩
      rw [valV_kvs, el]
      rfl
    | _ => cases ex
def asD (kvs : List (List Nat × Int)) : List (List Nat × D) := kvs.map fun p => (p.1, .int p.2)
theorem kvsV_as (kvs : List (List Nat × Int)) : kvsV (asD kvs) = kvI kvs := by
  unfold kvsV asD kvI
  rw [List.map_map]
  rfl
theorem lookup_as (z : List Nat) : ∀ kvs : List (List Nat × Int), (asD kvs).lookup z = (kvs.lookup z).map .int
  | [] => rfl
  | (s, i) :: r => by
    have ih := lookup_as z r
    by_cases h : z = s
    · subst h
      show List.lookup z ((z, D.int i) :: asD r) = _
      simp [List.lookup]
    · have hb : (z == s) = false := beq_eq_false_iff_ne.mpr h
      show List.lookup z ((s, D.int i) :: asD r) = _
      simp only [List.lookup, hb]
      exact ih
theorem d_cdic {ks : List (Option Expr)} {vs : List Expr} {kvs : List (List Nat × Int)} (hc : dixC ks vs (asD kvs) = true) (hn : nodupK (asD kvs) = true) (h0 : kvs ≠ []) (h15 : kvs.length ≤ 15) : PE X (.Dict ks vs dpos) (tD X.K W xa hx η fun _ M => .ok (.edic kvs) M) := by
  obtain ⟨p1, p2, p3, p4, p5⟩ := dix_pps (X := X) (dpos := dpos) hc
  have la : (asD kvs).length = kvs.length := List.length_map _
  refine PE.imp (pe_disp p1 p2 p3 (fun z => h0 (List.length_eq_zero_iff.mp (by rw [← la, ← p4, z]; rfl))) (by omega)) fun σ H Q h => ?_
  obtain ⟨β, ρ, M, sr, h⟩ := h
  intro p hp
  refine tPairs_c ⟨upd_same, kvsV (asD kvs), rfl, by unfold kvsV; rw [List.length_map, la]; exact h15, ?_⟩
  have em : mergeK [] (kvsV (asD kvs)) = kvsV (asD kvs) := merge_kvs (asD kvs) [] hn fun _ _ => rfl
  rw [em, kvsV_as]
  have : upd (upd H p (.dK [])) p (.dK (kvI kvs)) = upd H p (.dK (kvI kvs)) := upd_upd
  rw [this]
  exact Post.edic sr.heap h p hp
theorem d_cget {fb fc : LX.Env → MH → Res D} {o e f : Expr} {apos cpos : Pos} (hu : X.A.units + 1 < cLine) (ho : PE X o (tD X.K W xa hx η fa)) (he : PE X e (tD X.K W xa hx η fb)) (hf : PE X f (tD X.K W xa hx η fc)) (hb : okBase o = true) (hl : (apos.endLine == cpos.line) = true) (hst : [e, f].all noStar = true) :
    PE X (.Call (.Attribute o "get" apos) [e, f] [] cpos) (tD X.K W xa hx η fun ρ M => (fa ρ M).bind fun x M => if isCd x then (fb ρ M).bind fun y M => (fc ρ M).bind fun w M => ofO (cgetD x y w) M else .stuck) := by
  have hst2 := hst
  simp only [List.all_cons, List.all_nil, Bool.and_true, Bool.and_eq_true] at hst2
  have trees : backTo cpos (starEach [e, f] X.env) = [(false, eval e X.env), (false, eval f X.env)] := by
    rw [star1 (noStar_ne hst2.1), star1 (noStar_ne hst2.2)]
    rfl
  refine PE.imp (pe_dget2 hu ho he hf ⟨base_of hb, few_of hst (by show 2 < 29; omega), hl, trees⟩) fun σ H Q h => tR.seq h fun β ρ M x v H1 sr r1 h1 => ?_
  obtain ⟨hc, h1⟩ := Post.ite h1
  cases x with
  | edic kvs =>
    have r0 := r1
    unfold Rep at r1
    obtain ⟨a, rfl, q, hn⟩ := r1
    refine ⟨a, rfl, .inl ⟨_, .inl q⟩, tR.seq2 sr h1 fun β2 M2 y w H2 sr2 mo _ r2 h2 => ?_⟩
    have r02 := mo r0
    refine tR.seq2 sr2 h2 fun β3 M3 z u H3 sr3 mo3 _ r3 h3 => ?_
    have r03 := mo3 r02
    unfold Rep at r03
    obtain ⟨a', ea, q3, _⟩ := r03
    cases ea
    have r2' := mo3 r2
    cases y with
    | str s =>
      obtain ⟨_, rfl⟩ := r2'.strI
      refine ⟨(kvs.lookup s).map V.int, .inl ⟨kvI kvs, .inr ⟨s.toArray⟩, .inl q3, rfl, ?_⟩, ?_⟩
      · have e1 := valV_kvs s (asD kvs)
        rw [kvsV_as, lookup_as, Option.map_map] at e1
        exact e1.symm
      · have h3' : Post X.K W xa (RD X.K) σ H3 β3 M3.length (.ok (match kvs.lookup s with
          | some i => D.int i
          | none => z) M3) Q := h3
        cases el : kvs.lookup s with
        | none =>
          rw [el] at h3'
          exact h3'.okv sr3.heap r3
        | some i =>
          rw [el] at h3'
          exact h3'.okv sr3.heap rfl
    | _ => exact h3.elim
  | _ => cases hc
end
end LX

set_option Elab.async false
set_option linter.all false
set_option maxRecDepth 100000
set_option maxHeartbeats 2000000
/-! LxChk: does an IR tell what a text says? A check that runs. -/
namespace LX
open PySem L2 PyProof.Rows
/-- the module's names: its defs, its exception classes, its constants, the names that it leaves to the built-ins -/
structure Tb where
  fns : List Str
  xcs : List Str
  cons : List (Str × D)
  bls : List Str
  flds : List Str
  ini : List Nat
  qns : List Str
  kbs : List (Nat × List Str × List Nat)
  tabs : List (Str × List (List Nat × D)) := []
/-- where a text stands: the slots' names, the scope; hot: in an except suite (the error's slot); df: in a def's body, in no suite -/
structure Sc where
  N : List Str
  sc : Scope
  own : Scope
  hot : Option (Option Nat)
  df : Bool
def glB (sc : Scope) (x : Str) : Bool := match sc.names.lookup x with
  | some .globalImplicit => true
  | _ => false
def Tb.blt (T : Tb) (L : Sc) (x : Str) : Bool := glB L.sc x && decide (x ∈ T.bls)
def slotC (L : Sc) (x : Str) (i : Nat) : Bool := decide (L.N[i]? = some x) && (visB L.sc x && nm x)
def locC (L : Sc) (x : Str) (i : Nat) : Bool := decide (L.N[i]? = some x) && locB L.own x && (match L.hot with
  | some (some j) => decide (i ≠ j)
  | _ => true)
def lclC (L : Sc) (x : Str) (i : Nat) : Bool := decide (L.N[i]? = some x) && decide (L.sc.names.lookup x = some .local) && (match L.hot with
  | some (some j) => decide (i ≠ j)
  | _ => true)
def constC : Const → D → Bool
  | .int i, .int j => decide (i = j)
  | .str s, .str l => decide (s = ⟨l.toArray⟩) && decide (l.length ≤ lim)
  | .none, .non => true
  | .bool a, .bl b => decide (a = b)
  | _, _ => false
def isSet : Expr → Bool
  | .Set _ _ _ => true
  | _ => false
def noSlice : Expr → Bool
  | .Slice _ _ _ _ => false
  | _ => true
/-- a test by its value -/
def plainT : Expr → Bool
  | .UnaryOp _ _ _ => false
  | .BoolOp _ _ _ => false
  | .IfExp _ _ _ _ => false
  | .Compare _ _ _ _ => false
  | _ => true
def ownP (N : List Str) (own : List Nat) : List (Str × Nat) := own.map fun i => (N.getD i "", i)
def chkG (L : Sc) (t : Expr) (g : G) : Bool :=
  match g, t with
  | .one i, .Name x _ => locC L x i
  | .tup is, .Tuple ts _ _ => decide (is.length = ts.length) && (is.zip ts).all fun p => match p.2 with
    | .Name x _ => locC L x p.1
    | _ => false
  | _, _ => false
def kindsC (T : Tb) (L : Sc) (ks : List Kind) (ns : List Expr) : Bool := decide (ns.length = ks.length) && (ks.zip ns).all fun p => match p.2 with
  | .Name x _ => decide (x = Str.ofString (kdN p.1)) && T.blt L x
  | _ => false
def clsC (T : Tb) (L : Sc) (cs : List Nat) (ns : List Expr) : Bool := decide (ns.length = cs.length) && (cs.zip ns).all fun p => match p.2 with
  | .Name y _ => decide (T.xcs[p.1]? = some y) && glB L.sc y && nm y
  | _ => false
def conC (T : Tb) (L : Sc) (e : Expr) (d : D) : Bool :=
  match e with
  | .Constant c _ _ => constC c d
  | .Name x _ => glB L.sc x && nm x && (match T.cons.lookup x with
    | some d' => D.same d' d
    | none => false)
  | _ => false
def sameT : List (List Nat × D) → List (List Nat × D) → Bool
  | [], [] => true
  | (s, d) :: r, (s', d') :: r' => decide (s = s') && (D.same d d' && sameT r r')
  | _, _ => false
mutual
def chkE (T : Tb) : Nat → Sc → Expr → E → Bool
  | 0, _, _, _ => false
  | n + 1, L, e, ir => match ir with
    | .var i => (match e with
      | .Name x _ => slotC L x i
      | _ => false)
    | .con d => conC T L e d
    | .tup es => (match e with
      | .Tuple xs _ _ => chkEs T n L xs es
      | _ => false)
    | .lst _ es => (match e with
      | .List xs _ => chkEs T n L xs es
      | _ => false)
    | .bin _ o a b => (match e with
      | .BinOp x o' y _ => decide (o = o') && (chkE T n L x a && chkE T n L y b)
      | _ => false)
    | .neg a => (match e with
      | .UnaryOp .USub x _ => chkE T n L x a
      | _ => false)
    | .cmp o a b => (match e with
      | .Compare x [o'] [y] _ => decide (o = o') && (!isSet y && (chkE T n L x a && chkE T n L y b))
      | _ => false)
    | .chain o p a b c => (match e with
      | .Compare x [o', p'] [y, z] _ => decide (o = o') && (decide (p = p') && (!isSet z && (chkE T n L x a && (chkE T n L y b && chkE T n L z c))))
      | _ => false)
    | .and a b => (match e with
      | .BoolOp .And [x, y] _ => chkE T n L x a && chkE T n L y b
      | .BoolOp .And (x :: y :: z :: r) p => chkE T n L x a && chkE T n L (.BoolOp .And (y :: z :: r) p) b
      | _ => false)
    | .or a b => (match e with
      | .BoolOp .Or [x, y] _ => chkE T n L x a && chkE T n L y b
      | .BoolOp .Or (x :: y :: z :: r) p => chkE T n L x a && chkE T n L (.BoolOp .Or (y :: z :: r) p) b
      | _ => false)
    | .not a => (match e with
      | .UnaryOp .Not x _ => chkE T n L x a
      | _ => false)
    | .ite c a b => (match e with
      | .IfExp t x y _ => chkT T n L t c && (chkE T n L x a && chkE T n L y b)
      | _ => false)
    | .truth _ => false
    | .call f es => (match e with
      | .Call (.Name x _) (a :: as) [] _ => decide (T.fns[f]? = some x) && (glB L.sc x && (nm x && (L.hot.isNone && ((a :: as).all noStar && chkEs T n L (a :: as) es))))
      | _ => false)
    | .fn _ b es => (match e with
      | .Call (.Name x _) (a :: as) [] _ => decide (x = bfN b) && (T.blt L x && (L.hot.isNone && ((a :: as).all noStar && chkEs T n L (a :: as) es)))
      | _ => false)
    | .meth t o es => (match e with
      | .Call (.Attribute q m ap) [] [] cp => decide (t = .pop0) && (decide (m = mtN .pop0) && (okBase q && ((ap.endLine == cp.line) && (chkE T n L q o && es.isEmpty))))
      | .Call (.Attribute q m ap) (a :: as) [] cp => !decide (t = .pop0) && (decide (m = mtN t) && (okBase q && ((ap.endLine == cp.line) && (chkE T n L q o && ((a :: as).all noStar && (decide ((a :: as).length < 29) && chkEs T n L (a :: as) es))))))
      | _ => false)
    | .ix a i => (match e with
      | .Subscript x y _ => noSlice y && (chkE T n L x a && chkE T n L y i)
      | _ => false)
    | .cut _ a lo hi => (match e with
      | .Subscript x (.Slice l u none _) _ => chkE T n L x a && (chkO T n L l lo && chkO T n L u hi)
      | _ => false)
    | .rev _ a => (match e with
      | .Subscript x (.Slice none none (some (.UnaryOp .USub (.Constant (.int 1) _ _) _)) _) _ => chkE T n L x a
      | _ => false)
    | .lc _ own tg it c e' => (match e with
      | .ListComp elt [⟨tgE, iter, ifs, 0⟩] scope _ => L.hot.isNone && (!isSet iter && (chkI T n L tgE iter it && (blkC L.N L.sc scope (ownP L.N own) && (decide (∀ i ∈ slots tg, i ∈ own) &&
          (chkG ⟨L.N, relS scope L.sc, scope, none, false⟩ tgE tg && (chkE T n ⟨L.N, relS scope L.sc, scope, none, false⟩ elt e' && (match ifs, c with
            | [], none => true
            | [t], some te => chkT T n ⟨L.N, relS scope L.sc, scope, none, false⟩ t te
            | _, _ => false)))))))
      | _ => false)
    | .lrng _ a => (match e with
      | .Call (.Name f _) [.Call (.Name g _) [x] [] _] [] _ => decide (f = ("list" : Str)) && (decide (g = ("range" : Str)) && (T.blt L f && (T.blt L g && (L.hot.isNone && (noStar x && chkE T n L x a)))))
      | _ => false)
    | .lower a => (match e with
      | .Call (.Attribute q m ap) [] [] cp => decide (m = ("lower" : Str)) && (okBase q && ((ap.endLine == cp.line) && chkE T n L q a))
      | _ => false)
    | .lset a => (match e with
      | .Call (.Name f _) [.Call (.Name g _) [x] [] _] [] _ => decide (f = ("len" : Str)) && (decide (g = ("set" : Str)) && (T.blt L f && (T.blt L g && (L.hot.isNone && (noStar x && chkE T n L x a)))))
      | _ => false)
    | .stp a lo => (match e with
      | .Subscript x (.Slice l none (some (.Constant (.int 2) _ _)) _) _ => chkE T n L x a && chkO T n L l lo
      | _ => false)
    | .srts a => (match e with
      | .Call (.Name f _) [.Call (.Name g _) [x] [] _] [] _ => decide (f = ("sorted" : Str)) && (decide (g = ("set" : Str)) && (T.blt L f && (T.blt L g && (L.hot.isNone && (noStar x && chkE T n L x a)))))
      | _ => false)
    | .hcall q => (match e with
      | .Call (.Name x _) [.Name y _] [] _ => decide (T.qns[q]? = some x) && (glB L.sc x && (nm x && (match L.hot with
        | some (some i) => slotC L y i
        | _ => false)))
      | _ => false)
    | .callk f m pm es => (match e with
      | .Call (.Name x _) [] kws _ => decide (T.fns[f]? = some x) && (glB L.sc x && (nm x && (L.hot.isNone && (decide (m = kws.length) && (kws.all (fun k => k.arg.isSome) && (decide ((f, kws.filterMap (·.arg), pm) ∈ T.kbs) && chkEs T n L (kws.map (·.value)) es))))))
      | _ => false)
    | .sm _ k a b => (match e with
      | .Call (.Attribute q m ap) [x] [] cp => decide (m = smN k) && (okBase q && ((ap.endLine == cp.line) && (noStar x && (chkE T n L q a && chkE T n L x b))))
      | _ => false)
    | .call0 f => (match e with
      | .Call (.Name x _) [] [] _ => decide (T.fns[f]? = some x) && (glB L.sc x && (nm x && L.hot.isNone))
      | _ => false)
    | .edic => (match e with
      | .Dict [] [] _ => true
      | _ => false)
    | .bad => (match e with
      | .Call _ _ _ _ => true
      | _ => false)
    | .cdic kvs => (match e with
      | .Dict ks vs _ => dixC ks vs (asD kvs) && (nodupK (asD kvs) && (!kvs.isEmpty && decide (kvs.length ≤ 15)))
      | _ => false)
    | .cget a b z => (match e with
      | .Call (.Attribute q m ap) [y, w] [] cp => decide (m = ("get" : Str)) && (okBase q && ((ap.endLine == cp.line) && (noStar y && (noStar w && (chkE T n L q a && (chkE T n L y b && chkE T n L w z))))))
      | _ => false)
    | .dix kvs a => (match e with
      | .Subscript (.Dict ks vs _) y _ => noSlice y && (dixC ks vs kvs && (nodupK kvs && (!kvs.isEmpty && (decide (kvs.length ≤ 15) && chkE T n L y a))))
      | _ => false)
    | .tget kvs a b => (match e with
      | .Call (.Attribute (.Name x _) m ap) [y, z] [] cp => decide (m = ("get" : Str)) && (glB L.sc x && (nm x && ((match T.tabs.lookup x with
        | some kvs' => sameT kvs' kvs
        | none => false) && ((ap.endLine == cp.line) && (noStar y && (noStar z && (chkE T n L y a && chkE T n L z b)))))))
      | _ => false)
    | .rng1 _ => false
    | .rng2 _ _ => false
    | .rng3 _ _ _ => false
    | .zip _ _ => false
    | .isi ks a => (match e with
      | .Call (.Name f _) [x, .Name y q] [] _ => decide (f = ("isinstance" : Str)) && (T.blt L f && (noStar x && (chkE T n L x a && (match ks with
        | [k] => kindsC T L [k] [.Name y q]
        | _ => false))))
      | .Call (.Name f _) [x, .Tuple ns _ _] [] _ => decide (f = ("isinstance" : Str)) && (T.blt L f && (noStar x && (chkE T n L x a && (kindsC T L ks ns && decide (ks.length < 1000)))))
      | _ => false)
    | .xat f => (match e with
      | .Attribute (.Name x _) f' _ => decide (f = f') && decide (f ∈ T.flds) && (match L.hot with
        | some (some i) => slotC L x i
        | _ => false)
      | _ => false)
    | .xisi cs => (match e with
      | .Call (.Name f _) [.Name x _, .Name y q] [] _ => decide (f = ("isinstance" : Str)) && (T.blt L f && ((match L.hot with
        | some (some i) => slotC L x i
        | _ => false) && (match cs with
        | [j] => clsC T L [j] [.Name y q]
        | _ => false)))
      | .Call (.Name f _) [.Name x _, .Tuple ns _ _] [] _ => decide (f = ("isinstance" : Str)) && (T.blt L f && ((match L.hot with
        | some (some i) => slotC L x i
        | _ => false) && (clsC T L cs ns && decide (cs.length < 1000))))
      | _ => false)
def chkEs (T : Tb) : Nat → Sc → List Expr → List E → Bool
  | 0, _, _, _ => false
  | n + 1, L, es, irs => match es, irs with
    | [], [] => true
    | e :: es, ir :: irs => noStar e && (chkE T n L e ir && chkEs T n L es irs)
    | _, _ => false
def chkO (T : Tb) : Nat → Sc → Option Expr → Option E → Bool
  | 0, _, _, _ => false
  | n + 1, L, e, ir => match e, ir with
    | none, none => true
    | some e, some ir => chkE T n L e ir
    | _, _ => false
def chkT (T : Tb) : Nat → Sc → Expr → E → Bool
  | 0, _, _, _ => false
  | n + 1, L, e, ir => match e with
    | .Compare x ops ys _ => (match ops, ys, ir with
      | [o'], [y], .cmp o a b => decide (o = o') && (!isSet y && (chkE T n L x a && chkE T n L y b))
      | [o', p'], [y, z], .chain o p a b c => decide (o = o') && (decide (p = p') && (!isSet z && (chkE T n L x a && (chkE T n L y b && chkE T n L z c))))
      | _, _, _ => false)
    | .BoolOp .And xs p => (match xs, ir with
      | [x], ir => chkT T n L x ir
      | x :: y :: r, .and a b => chkT T n L x a && chkT T n L (.BoolOp .And (y :: r) p) b
      | _, _ => false)
    | .BoolOp .Or xs p => (match xs, ir with
      | [x], ir => chkT T n L x ir
      | x :: y :: r, .or a b => chkT T n L x a && chkT T n L (.BoolOp .Or (y :: r) p) b
      | _, _ => false)
    | .UnaryOp .Not x _ => (match ir with
      | .not a => chkT T n L x a
      | _ => false)
    | e => (match ir with
      | .truth a => plainT e && chkE T n L e a
      | ir => plainT e && chkE T n L e ir)
def chkI (T : Tb) : Nat → Sc → Expr → Expr → E → Bool
  | 0, _, _, _, _ => false
  | n + 1, L, tg, e, ir => match ir with
    | .zip a b => (match tg, e with
      | .Tuple _ _ _, .Call (.Name f _) [x, y] [] _ => decide (f = ("zip" : Str)) && (T.blt L f && (noStar x && (noStar y && (chkE T n L x a && chkE T n L y b))))
      | _, _ => false)
    | .rng1 a => (match e with
      | .Call (.Name f _) [x] [] _ => decide (f = ("range" : Str)) && (T.blt L f && (noStar x && chkE T n L x a))
      | _ => false)
    | .rng2 a b => (match e with
      | .Call (.Name f _) [x, y] [] _ => decide (f = ("range" : Str)) && (T.blt L f && (noStar x && (noStar y && (chkE T n L x a && chkE T n L y b))))
      | _ => false)
    | .rng3 a b d => (match e with
      | .Call (.Name f _) [x, y, z] [] _ => decide (f = ("range" : Str)) && (T.blt L f && (noStar x && (noStar y && (noStar z && (chkE T n L x a && (chkE T n L y b && chkE T n L z d))))))
      | _ => false)
    | ir => chkE T n L e ir
end
def isLc : Expr → Bool
  | .ListComp _ _ _ _ => true
  | .SetComp _ _ _ _ => true
  | .DictComp _ _ _ _ _ => true
  | _ => false
def isTup : Expr → Bool
  | .Tuple _ _ _ => true
  | .List _ _ => true
  | _ => false
/-- which stores a, b = x, y makes -/
def swapB (ts vs : List Expr) (sc : Scope) : Option (Option (List Str)) :=
  if !(ts.length == 2 || ts.length == 3) || vs.length != ts.length then some none else
  if vs.any (fun | .Starred .. => true | _ => false) then some none else
  let line := (ts.head?.map (·.pos.line)).getD 0
  let names := ts.filterMap fun
    | .Name id pos => if sc.names.lookup id == some .local && pos.line == line then some id else none
    | _ => none
  if names.length != ts.length || names.eraseDups.length != names.length then some none else
  if vs.all (foldedForSure 8) then some none else
  if vs.all (constantsAlone 8) then none else some (some names)
/-- a name that stands for a list that is built on the spot, on the name's own line -/
def setLcC (L : Sc) (y : Str) (i : Nat) (scope : Scope) (py pos : Pos) : Bool :=
  lclC L y i && ((py.line == pos.line) && !(scope.names.any fun (n, k) => n == y && (k == .local || k == .cell)))
mutual
def chkS (T : Tb) : Nat → Sc → Stmt → S → Bool
  | 0, _, _, _ => false
  | n + 1, L, st, ir => match ir with
    | .expr e => (match st with
      | .Expr x _ => !isLc x && chkE T n L x e
      | _ => false)
    | .ret e => (match st with
      | .Return (some x) _ => chkE T n L x e
      | _ => false)
    | .retN => (match st with
      | .Return none _ => true
      | _ => false)
    | .pass => (match st with
      | .Pass _ => true
      | _ => false)
    | .brk => (match st with
      | .Break _ => true
      | _ => false)
    | .cont => (match st with
      | .Continue _ => true
      | _ => false)
    | .set i e => (match st with
      | .Assign [.Name y py] (.ListComp elt gs scope pos) sp => (setLcC L y i scope py pos || (locC L y i && (!(py.line == pos.line) || decide (L.sc.names.lookup y = some .cell)))) && chkE T n L (.ListComp elt gs scope pos) e
      | .Assign [.Name y _] x _ => locC L y i && (!isLc x && chkE T n L x e)
      | _ => false)
    | .unp is e => (match st with
      | .Assign [.Tuple ts k p] x _ => L.hot.isNone && (chkG L (.Tuple ts k p) (.tup is) && (!isLc x && ((match x with
        | .Tuple vs _ _ => decide (swapB ts vs L.sc = some none)
        | _ => true) && chkE T n L x e)))
      | _ => false)
    | .unl is e => (match st with
      | .Assign [.Tuple ts k p] x _ => L.hot.isNone && (chkG L (.Tuple ts k p) (.tup is) && (!isLc x && ((match x with
        | .Tuple vs _ _ => decide (swapB ts vs L.sc = some none)
        | _ => true) && chkE T n L x e)))
      | _ => false)
    | .par i j a b => (match st with
      | .Assign [.Tuple [.Name x px, .Name y py] _ _] (.Tuple [u, v] _ _) _ => L.hot.isNone && (lclC L x i && (lclC L y j && (decide (i ≠ j) && (noStar u && (noStar v && (decide (swapB [.Name x px, .Name y py] [u, v] L.sc = some (some [x, y])) && (chkE T n L u a && chkE T n L v b)))))))
      | _ => false)
    | .par3 i j l a b c => (match st with
      | .Assign [.Tuple [.Name x px, .Name y py, .Name z pz] _ _] (.Tuple [u, v, w] _ _) _ => L.hot.isNone && (lclC L x i && (lclC L y j && (lclC L z l && (decide (i ≠ j) && (decide (i ≠ l) && (decide (j ≠ l) && (noStar u && (noStar v && (noStar w &&
          (decide (swapB [.Name x px, .Name y py, .Name z pz] [u, v, w] L.sc = some (some [x, y, z])) && (chkE T n L u a && (chkE T n L v b && chkE T n L w c))))))))))))
      | _ => false)
    | .put o i e => (match st with
      | .Assign [.Subscript q j _] x _ => noSlice j && (!isLc x && (chkE T n L x e && (chkE T n L q o && chkE T n L j i)))
      | _ => false)
    | .aug i o e => (match st with
      | .AugAssign (.Name y _) o' x _ => decide (o = o') && (locC L y i && chkE T n L x e)
      | _ => false)
    | .ite c a b => (match st with
      | .If t xs ys _ => chkT T n L t c && (chkSs T n L xs a && chkSs T n L ys b)
      | _ => false)
    | .wh c b => (match st with
      | .While t xs [] _ => L.df && (chkT T n L t c && chkSs T n L xs b)
      | _ => false)
    | .for tg it b => (match st with
      | .For tgE iter xs [] _ => L.df && (!isSet iter && (chkI T n L tgE iter it && (chkG L tgE tg && chkSs T n L xs b)))
      | _ => false)
    | .raise k es => (match st with
      | .Raise (some (.Call (.Name x _) (a :: as) [] _)) none _ => L.hot.isNone && (decide (T.xcs[k]? = some x ∧ k ∈ T.ini) && (glB L.sc x && (nm x && ((a :: as).all noStar && chkEs T n L (a :: as) es))))
      | _ => false)
    | .try b hs => (match st with
      | .Try xs [.ExceptHandler (some (.Name y _)) (some z) (s0 :: ss) _] [] [] _ => (match hs with
        | [(j, some i, hb)] => L.df && (lclC L z i && (decide (T.xcs[j]? = some y) && (glB L.sc y && (nm y && (chkSs T n L xs b && chkSs T n ⟨L.N, L.sc, L.own, some (some i), false⟩ (s0 :: ss) hb)))))
        | _ => false)
      | .Try xs (h0 :: hds) [] [] _ => L.df && (chkSs T n L xs b && chkHs T n L (h0 :: hds) hs)
      | _ => false)
def chkSs (T : Tb) : Nat → Sc → List Stmt → List S → Bool
  | 0, _, _, _ => false
  | n + 1, L, ss, irs => match ss, irs with
    | [], [] => true
    | s :: ss, ir :: irs => chkS T n L s ir && chkSs T n L ss irs
    | _, _ => false
def chkHs (T : Tb) : Nat → Sc → List ExceptHandler → List (Nat × Option Nat × List S) → Bool
  | 0, _, _, _ => false
  | n + 1, L, hds, hs => match hds, hs with
    | [], [] => true
    | .ExceptHandler (some (.Name y _)) none (s0 :: ss) _ :: hds, (j, none, b) :: hs => decide (T.xcs[j]? = some y) && (glB L.sc y && (nm y && (chkSs T n ⟨L.N, L.sc, L.own, some none, false⟩ (s0 :: ss) b && chkHs T n L hds hs)))
    | .ExceptHandler (some (.Name y _)) (some z) (s0 :: ss) _ :: hds, (j, some i, b) :: hs => lclC L z i && (decide (T.xcs[j]? = some y) && (glB L.sc y && (nm y && (chkSs T n ⟨L.N, L.sc, L.own, some (some i), false⟩ (s0 :: ss) b && chkHs T n L hds hs))))
    | _, _ => false
end
end LX

set_option Elab.async false
set_option linter.all false
set_option maxRecDepth 100000
set_option maxHeartbeats 4000000
/-! LxSnd: what is checked holds. -/
namespace LX
open PySem L2 PyProof.Rows
/-- what the module's top has written, told by the tables -/
structure Tab (w : World) (K : PySem.W.Frag) (mg : Str → Option Value) (pg : Pg) (T : Tb) (xa fa : Nat → Addr) : Prop where
  fn : ∀ f x, T.fns[f]? = some x → mg x = some (.ref (fa f)) ∧ PySem.W.keepIn K (.ref (fa f)) = true ∧ f < pg.fns.length
  xc : ∀ k y, T.xcs[k]? = some y → mg y = some (.ref (xa k)) ∧ k < pg.xcs.length
  bl : ∀ x ∈ T.bls, mg x = none
  co : ∀ x d, T.cons.lookup x = some d → ∃ v u, mg x = some u ∧ RelV v u ∧ ∀ H β N, Rep K H β N d v
  ta : ∀ x kvs, T.tabs.lookup x = some kvs → ∃ p, mg x = some (.ref p) ∧ TabR w K p kvs
  no : ∀ f ∈ T.flds, ∀ k, k < pg.live → PySem.W.findIn K (.ref (xa k)) f = some none
  xt : XTab K xa pg
  ini : ∀ k ∈ T.ini, ∀ x, pg.xcs[k]? = some x → XIni K (xa k) x.flds ∧ x.flds.Nodup
  qn : ∀ (q : Nat) (x : Str), T.qns[q]? = some x → ∃ (f : Addr) (t : Nat × List S) (fd : FuncData) (qual : Str) (st : Stmt) (N : List Str) (p0 : Str) (k : Nat), pg.qns[q]? = some t ∧ mg x = some (.ref f) ∧ PySem.W.keepIn K (.ref f) = true ∧ Fun K x qual st f fd ∧ FnScope N [p0] (defScope st) ∧ Binds K fd [p0] [] ∧ N.length = t.1 ∧ 0 < t.1 ∧ chkSs T k ⟨N, defScope st, defScope st, some (some 0), false⟩ (defBody st) t.2 = true
/-- a def keeps its promise -/
def FnG (P : Program) (w : World) (K : PySem.W.Frag) (mg : Str → Option Value) (base : Heap) (T : Tb) (xa fa : Nat → Addr) (d f : Nat) (t : Fn) (F : List D → MH → Res D) : Prop :=
  ∃ fd ps, FnOk P w K mg base (L2.CX P w) (d + 2) (fa f) fd ps (spF K xa t.np F) ∧ Binds K fd ps [] ∧ (∀ q ∈ T.kbs, q.1 = f → KBq K fd ps q.2.1 q.2.2) ∧ ∀ ds M, F ds M ≠ .stuck → ds.length = t.np
structure Gd (pg : Pg) (T : Tb) (xa fa : Nat → Addr) (n : Nat) (c : Cf) (L : Sc) (hx : Option Hx) (W : WX) (X : Cx) : Prop where
  hN : X.N = L.N
  hsc : X.env.scope = L.sc
  nd : X.N.Nodup
  kd : X.env.scope.kind = .function
  un : X.A.units + 65 < cLine
  fnl : ∀ x, Loc L.own x → Loc X.env.scope x ∧ (X.fn x = true ∨ X.env.scope.names.lookup x = some .local)
  tk : Takes X W
  tab : Tab X.w X.K X.mg pg T xa fa
  cool : L.hot = none → hx = none ∧ c.x = none ∧ X.calm = true ∧ Room (c.d + 2) X.A
  fns : ∀ m, m ≤ n → ∀ d, d ≤ c.d → ∀ f t, pg.fns[f]? = some t → FnG X.prog X.w X.K X.mg X.base T xa fa d f t ((sys pg m).f d f)
  rq : X.A.depth + 3 * c.d + 8 < recursionLimit ∧ X.A.units + 16 * c.d + 100 < cLine
  hotF : ∀ i, L.hot = some i → ∃ h k fl, hx = some h ∧ c.x = some (k, fl) ∧ k < pg.live ∧ h.i = i ∧ HotX X (xa k) h
  dfF : L.df = true → PassesOwn (model X.prog X.w) X.A X.env X.xe ∧ X.stack = X.env :: X.outer ∧ X.env.frame = some X.env.locals ∧ L.hot = none
theorem Gd.down {pg : Pg} {T : Tb} {xa fa : Nat → Addr} {n m : Nat} {c : Cf} {L : Sc} {hx : Option Hx} {W : WX} {X : Cx} (G : Gd pg T xa fa n c L hx W X) (h : m ≤ n) : Gd pg T xa fa m c L hx W X :=
  ⟨G.hN, G.hsc, G.nd, G.kd, G.un, G.fnl, G.tk, G.tab, G.cool, fun k hk => G.fns k (Nat.le_trans hk h), G.rq, G.hotF, G.dfF⟩
theorem takesF {X : Cx} : Takes X WF := fun _ _ x => by
  obtain ⟨_, _, _, _, _, _, _, _, _, _, _, _, _, _, _, _, z⟩ := x
  exact z.elim
theorem map_lookup {α : Type} (g : Str → α → α) (x : Str) : ∀ l : List (Str × α), (l.map fun p => (p.1, g p.1 p.2)).lookup x = (l.lookup x).map (g x)
  | [] => rfl
  | (y, a) :: l => by
    show List.lookup x ((y, g y a) :: l.map _) = _
    by_cases q : x = y
    · subst q
      simp [List.lookup]
    · have e : (x == y) = false := by simpa using q
      simp only [List.lookup, e]
      exact map_lookup g x l
theorem rel_lookup (env : PySem.Env) (scope : Scope) (x : Str) : (PySem.relabel scope env).names.lookup x = (scope.names.lookup x).map fun k => if (k == NameKind.free && env.scope.kind == .function && env.kindOf x == some .cell) then NameKind.cell else k := by
  have e : (PySem.relabel scope env).names = scope.names.map fun p => (p.1, (fun n k => if (k == NameKind.free && env.scope.kind == .function && env.kindOf n == some .cell) then NameKind.cell else k) p.1 p.2) := by
    unfold PySem.relabel
    refine List.map_congr_left fun p _ => ?_
    obtain ⟨n, k⟩ := p
    dsimp only
    split <;> rfl
  rw [e]
  exact map_lookup (fun n k => if (k == NameKind.free && env.scope.kind == .function && env.kindOf n == some .cell) then NameKind.cell else k) x _
/-- a comprehension's block -/
theorem Gd.blk {pg : Pg} {T : Tb} {xa fa : Nat → Addr} {n : Nat} {c : Cf} {L : Sc} {hx : Option Hx} {W : WX} {X : Cx} (G : Gd pg T xa fa n c L hx W X) (hc : L.hot = none) {scope : Scope} (hk : scope.kind = .function) (s : Shared) (H : Hp) (C : Addr) (cl : List (Str × Addr)) (fp : List Addr) :
    Gd pg T xa fa n c ⟨L.N, relS scope L.sc, scope, none, false⟩ none WF (X.blk s H scope (compEnvC scope cl C X.env) fp) where
  hN := G.hN
  hsc := by
    rw [← G.hsc]
    rfl
  nd := G.nd
  kd := hk
  un := G.un
  fnl := fun x h => by
    have e := rel_lookup X.env scope x
    rcases h with h | h
    · rw [h] at e
      exact ⟨.inl e, .inr e⟩
    · rw [h] at e
      refine ⟨.inr e, .inl ?_⟩
      show (scope.names.lookup x == some .cell) = true
      rw [h]
      rfl
  tk := takesF
  tab := G.tab
  cool := fun _ => by
    obtain ⟨_, h2, h3, h4⟩ := G.cool hc
    exact ⟨rfl, h2, h3, h4⟩
  fns := G.fns
  rq := G.rq
  hotF := fun i z => by cases z
  dfF := fun z => by cases z
section
variable {pg : Pg} {T : Tb} {xa fa : Nat → Addr} {n k : Nat} {c : Cf} {L : Sc} {hx : Option Hx} {W : WX} {X : Cx} {x y : Str} {i : Nat} {p : Pos}
theorem Gd.gl (G : Gd pg T xa fa n c L hx W X) (h : glB L.sc x = true) : Gl X x := by
  unfold glB at h
  show X.env.scope.names.lookup x = some .globalImplicit
  rw [G.hsc]
  split at h
  · assumption
  · cases h
theorem Gd.blt (G : Gd pg T xa fa n c L hx W X) (h : T.blt L x = true) : Gl X x ∧ X.mg x = none := by
  unfold Tb.blt at h
  rw [Bool.and_eq_true, decide_eq_true_eq] at h
  exact ⟨G.gl h.1, G.tab.bl x h.2⟩
theorem Gd.slot (G : Gd pg T xa fa n c L hx W X) (h : slotC L x i = true) : X.N[i]? = some x ∧ Vis X.env.scope x ∧ nm x = true := by
  unfold slotC at h
  rw [Bool.and_eq_true, Bool.and_eq_true, decide_eq_true_eq] at h
  exact ⟨by rw [G.hN]; exact h.1, by rw [G.hsc]; exact visB_ok h.2.1, h.2.2⟩
theorem Gd.free (G : Gd pg T xa fa n c L hx W X) (h : (match L.hot with
  | some (some j) => decide (i ≠ j)
  | _ => true) = true) : freeI hx i := by
  intro h0 e z
  cases q : L.hot with
  | none =>
    rw [(G.cool q).1] at e
    cases e
  | some o =>
    obtain ⟨h1, k, fl, e1, _, _, e2, _⟩ := G.hotF o q
    rw [e1] at e
    cases e
    rw [q] at h
    rw [z] at e2
    subst e2
    exact of_decide_eq_true h rfl
theorem Gd.loc (G : Gd pg T xa fa n c L hx W X) (h : locC L x i = true) : X.N[i]? = some x ∧ Loc X.env.scope x ∧ (X.fn x = true ∨ X.env.scope.names.lookup x = some .local) ∧ freeI hx i := by
  unfold locC at h
  rw [Bool.and_eq_true, Bool.and_eq_true, decide_eq_true_eq] at h
  obtain ⟨h1, h2⟩ := G.fnl x (locB_ok h.1.2)
  exact ⟨by rw [G.hN]; exact h.1.1, h1, h2, G.free h.2⟩
theorem Gd.lcl (G : Gd pg T xa fa n c L hx W X) (h : lclC L x i = true) : X.N[i]? = some x ∧ X.env.scope.names.lookup x = some .local ∧ freeI hx i := by
  unfold lclC at h
  rw [Bool.and_eq_true, Bool.and_eq_true, decide_eq_true_eq, decide_eq_true_eq] at h
  exact ⟨by rw [G.hN]; exact h.1.1, by rw [G.hsc]; exact h.1.2, G.free h.2⟩
theorem Gd.cold (G : Gd pg T xa fa n c L hx W X) (h : L.hot.isNone = true) : L.hot = none ∧ hx = none ∧ c.x = none ∧ X.calm = true ∧ Room (c.d + 2) X.A := by
  have q : L.hot = none := Option.isNone_iff_eq_none.mp h
  exact ⟨q, G.cool q⟩
/-- soundness at n -/
structure SndAt (pg : Pg) (T : Tb) (xa fa : Nat → Addr) (n : Nat) : Prop where
  e : ∀ {k : Nat} {c : Cf} {L : Sc} {hx : Option Hx} {W : WX} {X : Cx} {e : Expr} {ir : E}, Gd pg T xa fa n c L hx W X → chkE T k L e ir = true → PE X e (tD X.K W xa hx c.x ((sys pg n).e c ir))
  es : ∀ {k : Nat} {c : Cf} {L : Sc} {hx : Option Hx} {W : WX} {X : Cx} {es : List Expr} {irs : List E}, Gd pg T xa fa n c L hx W X → chkEs T k L es irs = true → PA X es (tDs X.K W xa hx c.x ((sys pg n).es c irs))
  ks : ∀ {k : Nat} {c : Cf} {L : Sc} {hx : Option Hx} {W : WX} {X : Cx} {kws : List Keyword} {irs : List E}, Gd pg T xa fa n c L hx W X → chkEs T k L (kws.map (·.value)) irs = true → PK X kws (tDs X.K W xa hx c.x ((sys pg n).es c irs))
  t : ∀ {k : Nat} {c : Cf} {L : Sc} {hx : Option Hx} {W : WX} {X : Cx} {e : Expr} {ir : E}, Gd pg T xa fa n c L hx W X → chkT T k L e ir = true → PT X e (tT X.K W xa hx c.x ((sys pg n).e c ir))
  tw : ∀ {k : Nat} {c : Cf} {L : Sc} {hx : Option Hx} {W : WX} {X : Cx} {op : BoolOp} {xs : List Expr} {p : Pos} {ir : E}, Gd pg T xa fa n c L hx W X → chkT T k L (.BoolOp op xs p) ir = true → PW X (.BoolOp op xs p) (tT X.K W xa hx c.x ((sys pg n).e c ir))
  s : ∀ {k : Nat} {c : Cf} {L : Sc} {hx : Option Hx} {W : WX} {X : Cx} {st : Stmt} {ir : S}, Gd pg T xa fa n c L hx W X → chkS T k L st ir = true → PS X st (tS X.K W xa hx c.x ((sys pg n).s c ir))
  ss : ∀ {k : Nat} {c : Cf} {L : Sc} {hx : Option Hx} {W : WX} {X : Cx} {ss : List Stmt} {irs : List S}, Gd pg T xa fa n c L hx W X → chkSs T k L ss irs = true → PSs X ss (tS X.K W xa hx c.x ((sys pg n).ss c irs))
theorem snd_0 : SndAt pg T xa fa 0 where
  e := fun _ _ => ⟨fun _ _ _ _ _ _ ⟨_, _, _, _, z⟩ => z.elim⟩
  es := fun _ _ => ⟨fun _ _ _ _ _ _ _ ⟨_, _, _, _, z⟩ => z.elim⟩
  ks := fun _ _ => ⟨fun _ _ _ _ _ _ _ ⟨_, _, _, _, z⟩ => z.elim⟩
  t := fun _ _ => ⟨fun _ _ _ _ _ _ ⟨_, _, _, _, z⟩ => z.elim⟩
  tw := fun _ _ => ⟨fun _ _ _ _ _ _ _ ⟨_, _, _, _, z⟩ => z.elim⟩
  s := fun _ _ => ⟨fun _ _ _ _ _ _ ⟨_, _, _, _, z⟩ => z.elim⟩
  ss := fun _ _ => ⟨fun _ _ _ _ _ _ ⟨_, _, _, _, z⟩ => z.elim⟩
variable {η : Option (Nat × Flds)} {e : Expr} {es : List Expr} {st : Stmt} {sts : List Stmt}
theorem PT.eqf {f g : Env → MH → Res D} (h : PT X e (tT X.K W xa hx η f)) (q : ∀ ρ M, f ρ M = g ρ M) : PT X e (tT X.K W xa hx η g) := by
  have : f = g := funext fun ρ => funext fun M => q ρ M
  rw [← this]
  exact h
theorem PW.eqf {f g : Env → MH → Res D} (h : PW X e (tT X.K W xa hx η f)) (q : ∀ ρ M, f ρ M = g ρ M) : PW X e (tT X.K W xa hx η g) := by
  have : f = g := funext fun ρ => funext fun M => q ρ M
  rw [← this]
  exact h
theorem PA.eqf {f g : Env → MH → Res (List D)} (h : PA X es (tDs X.K W xa hx η f)) (q : ∀ ρ M, f ρ M = g ρ M) : PA X es (tDs X.K W xa hx η g) := by
  have : f = g := funext fun ρ => funext fun M => q ρ M
  rw [← this]
  exact h
theorem PK.eqf {kws : List Keyword} {f g : Env → MH → Res (List D)} (h : PK X kws (tDs X.K W xa hx η f)) (q : ∀ ρ M, f ρ M = g ρ M) : PK X kws (tDs X.K W xa hx η g) := by
  have : f = g := funext fun ρ => funext fun M => q ρ M
  rw [← this]
  exact h
theorem PS.eqf {f g : Env → MH → SRes} (h : PS X st (tS X.K W xa hx η f)) (q : ∀ ρ M, f ρ M = g ρ M) : PS X st (tS X.K W xa hx η g) := by
  have : f = g := funext fun ρ => funext fun M => q ρ M
  rw [← this]
  exact h
theorem PSs.eqf {f g : Env → MH → SRes} (h : PSs X sts (tS X.K W xa hx η f)) (q : ∀ ρ M, f ρ M = g ρ M) : PSs X sts (tS X.K W xa hx η g) := by
  have : f = g := funext fun ρ => funext fun M => q ρ M
  rw [← this]
  exact h
theorem notSet {y : Expr} (h : isSet y = false) : ∀ es k p, y ≠ .Set es k p := fun es k p z => by rw [z] at h; cases h
theorem lastSet {o q : CmpOp} {y z : Expr} (h : isSet z = false) : lastMarks [o, q] [y, z] = false := by
  show behindInMarks q z = false
  exact bmark q z (notSet h)
theorem fold_of {y : Expr} {env : PySem.Env} (h : isSet y = false) : ∀ v, foldedSetIterable y env v = pure v := fun v => by
  cases y with
  | Set es k p => cases h
  | _ => rfl
theorem noSl_of {y : Expr} (h : noSlice y = true) : NoSl y := fun o i => by
  cases y with
  | Slice l u s p => cases h
  | _ => rfl
theorem plainIx_of {y : Expr} (h : noSlice y = true) : PlainIx y := fun o i => by
  cases y with
  | Slice l u s p => cases h
  | _ => rfl
theorem plainT_ok {y : Expr} {env : PySem.Env} (h : plainT y = true) : ∀ whole, isTrue y env whole = (do let v ← whole; standAt y.pos; holding [v] (truthy v)) := fun w => by
  cases y with
  | UnaryOp o a p => cases h
  | BoolOp o a p => cases h
  | IfExp a b d p => cases h
  | Compare a b d p => cases h
  | _ => rfl
theorem snd_con (G : Gd pg T xa fa n c L hx W X) {d : D} (h : conC T L e d = true) : PE X e (tD X.K W xa hx c.x fun ρ M => .ok d M) := by
  unfold conC at h
  split at h
  · unfold constC at h
    split at h
    · cases of_decide_eq_true h
      exact d_tC pe_int fun H β N => rfl
    · rw [Bool.and_eq_true, decide_eq_true_eq, decide_eq_true_eq] at h
      obtain ⟨rfl, h⟩ := h
      exact d_tC pe_str fun H β N => Rep.mkStr h
    · exact d_tC pe_non fun H β N => rfl
    · cases of_decide_eq_true h
      exact d_tC pe_bl fun H β N => rfl
    · cases h
  · rw [Bool.and_eq_true, Bool.and_eq_true] at h
    obtain ⟨⟨h1, h2⟩, h3⟩ := h
    split at h3
    · rename_i d' q
      have := same_eq h3
      subst this
      obtain ⟨v, u, e1, e2, e3⟩ := G.tab.co _ _ q
      exact d_tC (pe_glob (G.gl h1) e1 e2 (nm_ok h2).1) e3
    · cases h3
  · cases h
theorem sameT_eq : ∀ {a b : List (List Nat × D)}, sameT a b = true → a = b
  | [], [], _ => rfl
  | (s, d) :: r, (s', d') :: r', h => by
    unfold sameT at h
    rw [Bool.and_eq_true, Bool.and_eq_true, decide_eq_true_eq] at h
    rw [h.1, same_eq h.2.1, sameT_eq h.2.2]
  | [], _ :: _, h => by cases h
  | _ :: _, [], h => by cases h
theorem snd_kinds (G : Gd pg T xa fa n c L hx W X) {ks : List Kind} {ns : List Expr} (h : kindsC T L ks ns = true) :
    ns.length = ks.length ∧ (∀ (i : Nat) (k : Kind) (n : Expr), ks[i]? = some k → ns[i]? = some n → ∃ p, n = .Name (Str.ofString (kdN k)) p) ∧ ∀ k ∈ ks, Gl X (Str.ofString (kdN k)) ∧ X.mg (Str.ofString (kdN k)) = none := by
  unfold kindsC at h
  rw [Bool.and_eq_true, decide_eq_true_eq, List.all_eq_true] at h
  obtain ⟨h1, h2⟩ := h
  have key : ∀ (i : Nat) (k : Kind) (n : Expr), ks[i]? = some k → ns[i]? = some n → ∃ p, n = .Name (Str.ofString (kdN k)) p ∧ T.blt L (Str.ofString (kdN k)) = true := fun i k n a b => by
    have q := h2 (k, n) (by
      refine List.mem_iff_getElem?.mpr ⟨i, ?_⟩
      rw [List.getElem?_zip_eq_some]
      exact ⟨a, b⟩)
    dsimp only at q
    split at q
    · rw [Bool.and_eq_true, decide_eq_true_eq] at q
      obtain ⟨rfl, q⟩ := q
      exact ⟨_, rfl, q⟩
    · cases q
  refine ⟨h1, fun i k n a b => ?_, fun k hk => ?_⟩
  · obtain ⟨p, q, _⟩ := key i k n a b
    exact ⟨p, q⟩
  · obtain ⟨i, hi, e⟩ := List.mem_iff_getElem.mp hk
    have hi2 : i < ns.length := by rw [h1]; exact hi
    obtain ⟨p, _, q⟩ := key i k ns[i] (by rw [List.getElem?_eq_getElem hi, e]) (List.getElem?_eq_getElem hi2)
    exact G.blt q
theorem snd_cls (G : Gd pg T xa fa n c L hx W X) {cs : List Nat} {ns : List Expr} (h : clsC T L cs ns = true) :
    ns.length = cs.length ∧ (∀ (i : Nat) (j : Nat) (n : Expr), cs[i]? = some j → ns[i]? = some n → ∃ y p, n = .Name y p ∧ Gl X y ∧ X.mg y = some (.ref (xa j)) ∧ nm y = true) ∧ ∀ j ∈ cs, j < pg.xcs.length := by
  unfold clsC at h
  rw [Bool.and_eq_true, decide_eq_true_eq, List.all_eq_true] at h
  obtain ⟨h1, h2⟩ := h
  have key : ∀ (i : Nat) (j : Nat) (n : Expr), cs[i]? = some j → ns[i]? = some n → (∃ y p, n = .Name y p ∧ Gl X y ∧ X.mg y = some (.ref (xa j)) ∧ nm y = true) ∧ j < pg.xcs.length := fun i j n a b => by
    have q := h2 (j, n) (by
      refine List.mem_iff_getElem?.mpr ⟨i, ?_⟩
      rw [List.getElem?_zip_eq_some]
      exact ⟨a, b⟩)
    dsimp only at q
    split at q
    · rename_i z pz
      rw [Bool.and_eq_true, Bool.and_eq_true, decide_eq_true_eq] at q
      obtain ⟨q1, q2⟩ := G.tab.xc _ _ q.1.1
      exact ⟨⟨_, _, rfl, G.gl q.1.2, q1, q.2⟩, q2⟩
    · cases q
  refine ⟨h1, fun i k n a b => (key i k n a b).1, fun k hk => ?_⟩
  obtain ⟨i, hi, e⟩ := List.mem_iff_getElem.mp hk
  have hi2 : i < ns.length := by rw [h1]; exact hi
  exact (key i k ns[i] (by rw [List.getElem?_eq_getElem hi, e]) (List.getElem?_eq_getElem hi2)).2
theorem snd_names (Γ : Gd pg T xa fa n c L hx W X) {is : List Nat} {ts : List Expr} (h : ((is.zip ts).all fun p => match p.2 with
    | .Name x _ => locC L x p.1
    | _ => false) = true) (hl : is.length = ts.length) : (∀ (k i : Nat) (t : Expr), is[k]? = some i → ts[k]? = some t → ∃ x p, t = Expr.Name x p ∧ X.N[i]? = some x ∧ Loc X.env.scope x ∧ (X.fn x = true ∨ X.env.scope.names.lookup x = some .local)) ∧ (∀ i ∈ is, freeI hx i) ∧
      (assignEach ts X.env).length = is.length ∧ (assignEach ts X.env).findIdx? (·.1) = none := by
  rw [List.all_eq_true] at h
  have key : ∀ (k i : Nat) (t : Expr), is[k]? = some i → ts[k]? = some t → ∃ x p, t = Expr.Name x p ∧ locC L x i = true := fun k i t a b => by
    have q := h (i, t) (by
      refine List.mem_iff_getElem?.mpr ⟨k, ?_⟩
      rw [List.getElem?_zip_eq_some]
      exact ⟨a, b⟩)
    dsimp only at q
    split at q
    · exact ⟨_, _, rfl, q⟩
    · cases q
  refine ⟨fun k i t a b => ?_, fun i hi => ?_, ?_⟩
  · obtain ⟨x, p, e, q⟩ := key k i t a b
    obtain ⟨h1, h2, h3, _⟩ := Γ.loc q
    exact ⟨x, p, e, h1, h2, h3⟩
  · obtain ⟨k, hk, e⟩ := List.mem_iff_getElem.mp hi
    have hk2 : k < ts.length := by rw [← hl]; exact hk
    obtain ⟨x, p, _, q⟩ := key k i ts[k] (by rw [List.getElem?_eq_getElem hk, e]) (List.getElem?_eq_getElem hk2)
    exact (Γ.loc q).2.2.2
  · have names : ∀ t ∈ ts, ∃ x p, t = Expr.Name x p := fun t ht => by
      obtain ⟨k, hk, e⟩ := List.mem_iff_getElem.mp ht
      have hk2 : k < is.length := by rw [hl]; exact hk
      obtain ⟨x, p, q, _⟩ := key k is[k] t (List.getElem?_eq_getElem hk2) (by rw [List.getElem?_eq_getElem hk, e])
      exact ⟨x, p, q⟩
    rw [hl]
    clear h key hl
    induction ts with
    | nil => exact ⟨rfl, rfl⟩
    | cons t ts ih =>
      obtain ⟨i1, i2⟩ := ih fun t ht => names t (List.mem_cons_of_mem _ ht)
      obtain ⟨x, p, rfl⟩ := names t List.mem_cons_self
      refine ⟨?_, ?_⟩
      · show (assignEach ts X.env).length + 1 = ts.length + 1
        rw [i1]
      · show List.findIdx? _ ((false, assign (.Name x p) X.env) :: assignEach ts X.env) = none
        rw [List.findIdx?_cons]
        simp [i2]
theorem snd_g (Γ : Gd pg T xa fa n c L hx W X) {g : G} (hc : X.calm = true) {t : Expr} (h : chkG L t g = true) : PG X t (gS X.K g) ∧ ∀ i ∈ slots g, freeI hx i := by
  unfold chkG at h
  split at h
  · obtain ⟨h1, h2, h3, h4⟩ := Γ.loc h
    exact ⟨g_one Γ.nd h1 h2 h3, fun i hi => by
      have : i = _ := List.mem_singleton.mp hi
      rw [this]
      exact h4⟩
  · rw [Bool.and_eq_true, decide_eq_true_eq] at h
    obtain ⟨h1, h2, h3, h4⟩ := snd_names Γ h.2 h.1
    exact ⟨g_tup hc h.1 h1 Γ.nd h3 h4, h2⟩
  · cases h
end
end LX

set_option Elab.async false
set_option linter.all false
set_option maxRecDepth 100000
set_option maxHeartbeats 4000000
/-! LxSnd2: soundness of expressions. -/
namespace LX
open PySem L2 PyProof.Rows
section
variable {pg : Pg} {T : Tb} {xa fa : Nat → Addr} {n k : Nat} {c : Cf} {L : Sc} {hx : Option Hx} {W : WX} {X : Cx} {e : Expr} {es : List Expr} {st : Stmt} {sts : List Stmt} {η : Option (Nat × Flds)}
theorem pe_and1 {a : Expr} {p : Pos} {t : TE} (h : PE X a t) : PE X (.BoolOp .And [a] p) t := ⟨fun pins s σ H Q I q => h.run pins s σ H Q I q⟩
theorem pe_or1 {a : Expr} {p : Pos} {t : TE} (h : PE X a t) : PE X (.BoolOp .Or [a] p) t := ⟨fun pins s σ H Q I q => h.run pins s σ H Q I q⟩
theorem snd_es (ih : SndAt pg T xa fa n) (G : Gd pg T xa fa n c L hx W X) {irs : List E} (h : chkEs T k L es irs = true) : PA X es (tDs X.K W xa hx c.x (stepEs (sys pg n) c irs)) := by
  cases k with
  | zero => cases h
  | succ k =>
    unfold chkEs at h
    split at h
    · exact PA.eqf da_nil fun _ _ => rfl
    · rw [Bool.and_eq_true, Bool.and_eq_true] at h
      exact PA.eqf (da_cons (ih.e G h.2.1) (ih.es G h.2.2) (star1 (noStar_ne h.1))) fun _ _ => rfl
    · cases h
theorem snd_ks (ih : SndAt pg T xa fa n) (G : Gd pg T xa fa n c L hx W X) {kws : List Keyword} {irs : List E} (h : chkEs T k L (kws.map (·.value)) irs = true) : PK X kws (tDs X.K W xa hx c.x (stepEs (sys pg n) c irs)) := by
  cases k with
  | zero => cases h
  | succ k =>
    unfold chkEs at h
    cases kws with
    | nil =>
      cases irs with
      | nil => exact PK.eqf dk_nil fun _ _ => rfl
      | cons _ _ => cases h
    | cons kw kws =>
      cases irs with
      | nil => cases h
      | cons ir irs =>
        obtain ⟨a, e, q⟩ := kw
        have h : (noStar e && (chkE T k L e ir && chkEs T k L (kws.map (·.value)) irs)) = true := h
        rw [Bool.and_eq_true, Bool.and_eq_true] at h
        exact PK.eqf (dk_cons (ih.e G h.2.1) (ih.ks G h.2.2)) fun _ _ => rfl
theorem snd_i (ih : SndAt pg T xa fa n) (G : Gd pg T xa fa n c L hx W X) {tg : Expr} {ir : E} (h : chkI T k L tg e ir = true) : PI X tg e (tI X.K W xa hx c.x (itE (sys pg n) c ir)) := by
  cases k with
  | zero => cases h
  | succ k =>
    unfold chkI at h
    split at h
    · split at h
      · simp only [Bool.and_eq_true, decide_eq_true_eq] at h
        obtain ⟨rfl, h2, h3, h4, h5, h6⟩ := h
        obtain ⟨b1, b2⟩ := G.blt h2
        exact i_zip b1 b2 (ih.e G h5) (ih.e G h6) h3 h4
      · cases h
    · split at h
      · simp only [Bool.and_eq_true, decide_eq_true_eq] at h
        obtain ⟨rfl, h2, h3, h4⟩ := h
        obtain ⟨b1, b2⟩ := G.blt h2
        exact i_rng1 b1 b2 (ih.e G h4) h3
      · cases h
    · split at h
      · simp only [Bool.and_eq_true, decide_eq_true_eq] at h
        obtain ⟨rfl, h2, h3, h4, h5, h6⟩ := h
        obtain ⟨b1, b2⟩ := G.blt h2
        exact i_rng2 b1 b2 (ih.e G h5) (ih.e G h6) h3 h4
      · cases h
    · split at h
      · simp only [Bool.and_eq_true, decide_eq_true_eq] at h
        obtain ⟨rfl, h2, h3, h4, h5, h6, h7, h8⟩ := h
        obtain ⟨b1, b2⟩ := G.blt h2
        exact i_rng3 b1 b2 (ih.e G h6) (ih.e G h7) (ih.e G h8) h3 h4 h5
      · cases h
    · rename_i h0 h1 h2 h3
      have q : itE (sys pg n) c ir = fun ρ M => ((sys pg n).e c ir ρ M).bind fun d M => ofO (itemsD M d) M := by
        funext ρ M
        cases ir with
        | zip a b => exact absurd rfl (h0 a b)
        | rng1 a => exact absurd rfl (h1 a)
        | rng2 a b => exact absurd rfl (h2 a b)
        | rng3 a b d => exact absurd rfl (h3 a b d)
        | _ => rfl
      rw [q]
      exact i_val (ih.e G h)
theorem snd_lc (ih : SndAt pg T xa fa n) (Γ : Gd pg T xa fa n c L hx W X) {own : List Nat} {tg : G} {it te : E} {t : Option E} {elt tgE iter : Expr} {ifs : List Expr} {scope : Scope} (h : (L.hot.isNone && (!isSet iter && (chkI T k L tgE iter it && (blkC L.N L.sc scope (ownP L.N own) && (decide (∀ i ∈ slots tg, i ∈ own) &&
          (chkG ⟨L.N, relS scope L.sc, scope, none, false⟩ tgE tg && (chkE T k ⟨L.N, relS scope L.sc, scope, none, false⟩ elt te && (match ifs, t with
            | [], none => true
            | [t], some te => chkT T k ⟨L.N, relS scope L.sc, scope, none, false⟩ t te
            | _, _ => false)))))))) = true) :
    hx = none ∧ c.x = none ∧ X.calm = true ∧ PI X tgE iter (tI X.K W xa none none (itE (sys pg n) c it)) ∧ BlkOk X.N X.env.scope scope (ownP L.N own) ∧ (∀ i ∈ slots tg, i ∈ (ownP L.N own).map (·.2)) ∧ (ownP L.N own).map (·.2) = own ∧
    (∀ (s : Shared) (H : Hp) (C : Addr) (cl : List (Str × Addr)) (fp : List Addr), PG (X.blk s H scope (compEnvC scope cl C X.env) fp) tgE (gS X.K tg)) ∧
    (∀ (s' : Shared) (H : Hp) (C : Addr) (cl : List (Str × Addr)) (fp : List Addr), PTs (X.blk s' H scope (compEnvC scope cl C X.env) fp) ifs (tTs X.K xa (tests (sys pg n) c t))) ∧
    (∀ (s' : Shared) (H : Hp) (C : Addr) (cl : List (Str × Addr)) (fp : List Addr), PE (X.blk s' H scope (compEnvC scope cl C X.env) fp) elt (tD X.K WF xa none none ((sys pg n).e c te))) ∧
    ∀ x, foldedSetIterable iter X.env x = pure x := by
  simp only [Bool.and_eq_true, decide_eq_true_eq, Bool.not_eq_true'] at h
  obtain ⟨h1, h2, h3, h4, h5, h6, h7, h8⟩ := h
  obtain ⟨q0, q1, q2, q3, q4⟩ := Γ.cold h1
  have hb : BlkOk X.N X.env.scope scope (ownP L.N own) := by
    rw [Γ.hN, Γ.hsc]
    exact blkOk_by h4
  have hB : ∀ s H C cl fp, Gd pg T xa fa n c ⟨L.N, relS scope L.sc, scope, none, false⟩ none WF (X.blk s H scope (compEnvC scope cl C X.env) fp) := fun s H C cl fp => Γ.blk q0 hb.kind s H C cl fp
  have ho : (ownP L.N own).map (·.2) = own := by
    unfold ownP
    rw [List.map_map]
    exact (List.map_congr_left fun _ _ => rfl).trans (List.map_id _)
  refine ⟨q1, q2, q3, ?_, hb, by rw [ho]; exact h5, ho, fun s H C cl fp => (snd_g (hB s H C cl fp) q3 h6).1, fun s H C cl fp => ?_, fun s H C cl fp => ?_, fold_of h2⟩
  · have z := snd_i (tg := tgE) ih Γ h3
    rw [q1, q2] at z
    exact z
  · split at h8
    · exact ts_nil
    · have z := ih.t (hB s H C cl fp) h8
      rw [q2] at z
      exact ts_one z
    · cases h8
  · have z := ih.e (hB s H C cl fp) h7
    rw [q2] at z
    exact z
theorem snd_e (ih : SndAt pg T xa fa n) (G : Gd pg T xa fa (n + 1) c L hx W X) {ir : E} (h : chkE T k L e ir = true) : PE X e (tD X.K W xa hx c.x (stepE pg (sys pg n) c ir)) := by
  have G' := G.down (Nat.le_succ n)
  cases k with
  | zero => cases h
  | succ k =>
    unfold chkE at h
    cases ir with
    | var i =>
      dsimp only at h
      split at h
      · obtain ⟨h1, h2, h3⟩ := G.slot h
        exact PE.eqf (d_var h1 h2 (nm_ok h3).1 (nm_ok h3).2) fun _ _ => rfl
      · cases h
    | con d => exact PE.eqf (snd_con G h) fun _ _ => rfl
    | tup es =>
      dsimp only at h
      split at h
      · exact PE.eqf (d_tup (ih.es G' h)) fun _ _ => rfl
      · cases h
    | lst m es =>
      dsimp only at h
      split at h
      · exact PE.eqf (d_lst (ih.es G' h)) fun _ _ => rfl
      · cases h
    | bin m o a b =>
      dsimp only at h
      split at h
      · simp only [Bool.and_eq_true, decide_eq_true_eq] at h
        obtain ⟨rfl, h1, h2⟩ := h
        exact PE.eqf (d_bin (ih.e G' h1) (ih.e G' h2)) fun _ _ => rfl
      · cases h
    | neg a =>
      dsimp only at h
      split at h
      · exact PE.eqf (d_neg (ih.e G' h)) fun _ _ => rfl
      · cases h
    | cmp o a b =>
      dsimp only at h
      split at h
      · simp only [Bool.and_eq_true, decide_eq_true_eq, Bool.not_eq_true'] at h
        obtain ⟨rfl, h1, h2, h3⟩ := h
        exact PE.eqf (d_cmp G.un (ih.e G' h2) (ih.e G' h3) (bmark _ _ (notSet h1))) fun _ _ => rfl
      · cases h
    | chain o p a b d =>
      dsimp only at h
      split at h
      · simp only [Bool.and_eq_true, decide_eq_true_eq, Bool.not_eq_true'] at h
        obtain ⟨rfl, rfl, h1, h2, h3, h4⟩ := h
        exact PE.eqf (d_chain G.un (ih.e G' h2) (ih.e G' h3) (ih.e G' h4) (lastSet h1)) fun _ _ => rfl
      · cases h
    | and a b =>
      dsimp only at h
      split at h
      · rw [Bool.and_eq_true] at h
        exact PE.eqf (d_and (ih.e G' h.1) (pe_and1 (ih.e G' h.2))) fun _ _ => rfl
      · rw [Bool.and_eq_true] at h
        exact PE.eqf (d_and (ih.e G' h.1) (ih.e G' h.2)) fun _ _ => rfl
      · cases h
    | or a b =>
      dsimp only at h
      split at h
      · rw [Bool.and_eq_true] at h
        exact PE.eqf (d_or (ih.e G' h.1) (pe_or1 (ih.e G' h.2))) fun _ _ => rfl
      · rw [Bool.and_eq_true] at h
        exact PE.eqf (d_or (ih.e G' h.1) (ih.e G' h.2)) fun _ _ => rfl
      · cases h
    | not a =>
      dsimp only at h
      split at h
      · exact PE.eqf (d_not (ih.e G' h)) fun _ _ => rfl
      · cases h
    | ite t a b =>
      dsimp only at h
      split at h
      · simp only [Bool.and_eq_true] at h
        obtain ⟨h1, h2, h3⟩ := h
        exact PE.eqf (d_ite (ih.t G' h1) (ih.e G' h2) (ih.e G' h3)) fun _ _ => rfl
      · cases h
    | truth a => cases h
    | call f es =>
      dsimp only at h
      split at h
      · simp only [Bool.and_eq_true, decide_eq_true_eq] at h
        obtain ⟨h1, h2, h3, h4, h5, h6⟩ := h
        obtain ⟨q0, q1, q2, q3, q4⟩ := G.cold h4
        obtain ⟨a1, a2, a3⟩ := G.tab.fn f _ h1
        obtain ⟨fd, ps, F, hb, _, hn⟩ := G.fns n (Nat.le_succ n) c.d (Nat.le_refl _) f _ (List.getElem?_eq_getElem a3)
        exact PE.eqf (d_call F q4 (G.gl h2) a1 a2 hb G.tk hn (ih.es G' h6) (nm_ok h3).1 (by rw [List.all_cons]; exact h5)) fun _ _ => rfl
      · cases h
    | fn m b es =>
      dsimp only at h
      split at h
      · simp only [Bool.and_eq_true, decide_eq_true_eq] at h
        obtain ⟨rfl, h2, h4, h5, h6⟩ := h
        obtain ⟨q0, q1, q2, q3, q4⟩ := G.cold h4
        obtain ⟨b1, b2⟩ := G.blt h2
        exact PE.eqf (d_fn q3 b1 b2 (ih.es G' h6) (by rw [List.all_cons]; exact h5)) fun _ _ => rfl
      · cases h
    | meth t o es =>
      dsimp only at h
      split at h
      · simp only [Bool.and_eq_true, decide_eq_true_eq, List.isEmpty_iff] at h
        obtain ⟨rfl, rfl, h3, h4, h5, rfl⟩ := h
        refine PE.eqf (d_meth0 (ih.e G' h5) h3 h4) fun ρ M => ?_
        cases n with
        | zero => rfl
        | succ n => rfl
      · simp only [Bool.and_eq_true, decide_eq_true_eq, Bool.not_eq_true', decide_eq_false_iff_not] at h
        obtain ⟨h1, rfl, h3, h4, h5, h6, h7, h8⟩ := h
        exact PE.eqf (d_meth h1 (ih.e G' h5) (ih.es G' h8) h3 h4 (by rw [List.all_cons]; exact h6) h7) fun _ _ => rfl
      · cases h
    | ix a i =>
      dsimp only at h
      split at h
      · simp only [Bool.and_eq_true] at h
        obtain ⟨h1, h2, h3⟩ := h
        exact PE.eqf (d_ix (ih.e G' h2) (ih.e G' h3) (plainIx_of h1)) fun _ _ => rfl
      · cases h
    | cut m a lo hi =>
      dsimp only at h
      split at h
      · simp only [Bool.and_eq_true] at h
        obtain ⟨h1, h2, h3⟩ := h
        have key : ∀ {k : Nat} {o : Option Expr} {oe : Option E}, chkO T k L o oe = true → (∀ e x, o = some e → oe = some x → PE X e (tD X.K W xa hx c.x ((sys pg n).e c x))) ∧ o.isSome = oe.isSome := fun {k o oe} q => by
          cases k with
          | zero => cases q
          | succ k =>
            unfold chkO at q
            split at q
            · exact ⟨fun e x a b => (by cases a), rfl⟩
            · refine ⟨fun e x a b => ?_, rfl⟩
              cases a
              cases b
              exact ih.e G' q
            · cases q
        exact PE.eqf (d_cut (ih.e G' h1) (key h2).1 (key h2).2 (key h3).1 (key h3).2) fun _ _ => rfl
      · cases h
    | rev m a =>
      dsimp only at h
      split at h
      · exact PE.eqf (d_rev (ih.e G' h)) fun _ _ => rfl
      · cases h
    | lc m own tg it t te =>
      dsimp only at h
      split at h
      · obtain ⟨q1, q2, q3, h3, h4, h5, ho, h6, h7, h8, h9⟩ := snd_lc ih G' h
        rw [q1, q2]
        refine PE.eqf (d_lc (mb := m) q3 G.nd h3 h4 h5 h6 h7 h8 h9) fun _ _ => ?_
        rw [ho]
        rfl
      · cases h
    | stp a lo =>
      dsimp only at h
      split at h
      · simp only [Bool.and_eq_true] at h
        obtain ⟨h1, h2⟩ := h
        have key : ∀ {k : Nat} {o : Option Expr} {oe : Option E}, chkO T k L o oe = true → (∀ e x, o = some e → oe = some x → PE X e (tD X.K W xa hx c.x ((sys pg n).e c x))) ∧ o.isSome = oe.isSome := fun {k o oe} q => by
          cases k with
          | zero => cases q
          | succ k =>
            unfold chkO at q
            split at q
            · exact ⟨fun e x a b => (by cases a), rfl⟩
            · refine ⟨fun e x a b => ?_, rfl⟩
              cases a
              cases b
              exact ih.e G' q
            · cases q
        exact PE.eqf (d_stp (ih.e G' h1) (key h2).1 (key h2).2) fun _ _ => rfl
      · cases h
    | lrng m a =>
      dsimp only at h
      split at h
      · simp only [Bool.and_eq_true, decide_eq_true_eq] at h
        obtain ⟨rfl, rfl, h2, h3, h4, h5, h6⟩ := h
        obtain ⟨q0, q1, q2, q3, q4⟩ := G.cold h4
        obtain ⟨b1, b2⟩ := G.blt h2
        obtain ⟨b3, b4⟩ := G.blt h3
        exact PE.eqf (d_lrng q3 b1 b2 b3 b4 (ih.e G' h6) h5) fun _ _ => rfl
      · cases h
    | sm m k a b =>
      dsimp only at h
      split at h
      · simp only [Bool.and_eq_true, decide_eq_true_eq] at h
        obtain ⟨rfl, h2, h3, h4, h5, h6⟩ := h
        exact PE.eqf (d_sm (ih.e G' h5) (ih.e G' h6) h2 h3 h4) fun _ _ => rfl
      · cases h
    | cdic kvs =>
      dsimp only at h
      split at h
      · simp only [Bool.and_eq_true, decide_eq_true_eq] at h
        obtain ⟨h1, h2, h3, h4⟩ := h
        exact PE.eqf (d_cdic h1 h2 (fun z => by rw [z] at h3; cases h3) h4) fun _ _ => rfl
      · cases h
    | cget a b z =>
      dsimp only at h
      split at h
      · simp only [Bool.and_eq_true, decide_eq_true_eq] at h
        obtain ⟨rfl, h2, h3, h4, h5, h6, h7, h8⟩ := h
        exact PE.eqf (d_cget (by have := G.un; omega) (ih.e G' h6) (ih.e G' h7) (ih.e G' h8) h2 h3 (by simp [h4, h5])) fun _ _ => rfl
      · cases h
    | dix kvs a =>
      dsimp only at h
      split at h
      · simp only [Bool.and_eq_true, decide_eq_true_eq] at h
        obtain ⟨h1, h2, h3, h4, h5, h6⟩ := h
        exact PE.eqf (d_dix h2 h3 (fun z => by rw [z] at h4; cases h4) h5 (by have := G.un; omega) (noSl_of h1) (ih.e G' h6)) fun _ _ => rfl
      · cases h
    | tget kvs a b =>
      dsimp only at h
      split at h
      · simp only [Bool.and_eq_true, decide_eq_true_eq] at h
        obtain ⟨rfl, h1, h2, h3, h4, h5, h6, h7, h8⟩ := h
        split at h3
        · rename_i kvs' q
          have := sameT_eq h3
          subst this
          obtain ⟨p, e1, e2⟩ := G.tab.ta _ _ q
          exact PE.eqf (d_tget (G.gl h1) e1 (nm_ok h2).1 e2 (ih.e G' h7) (ih.e G' h8) h4 (by simp [h5, h6])) fun _ _ => rfl
        · cases h3
      · cases h
    | call0 f =>
      dsimp only at h
      split at h
      · simp only [Bool.and_eq_true, decide_eq_true_eq] at h
        obtain ⟨h1, h2, h3, h4⟩ := h
        obtain ⟨q0, q1, q2, q3, q4⟩ := G.cold h4
        obtain ⟨a1, a2, a3⟩ := G.tab.fn f _ h1
        obtain ⟨fd, ps, F, hb, _, hn⟩ := G.fns n (Nat.le_succ n) c.d (Nat.le_refl _) f _ (List.getElem?_eq_getElem a3)
        refine PE.eqf (d_call0 (fnOk_noExn F) q4 (G.gl h2) a1 a2 hb (G.tk.imp fun _ _ _ _ z => z.elim) (fun ds M z => hn ds M fun w => z (by rw [w]; rfl)) (nm_ok h3).1 (fun ds M c fs M' z => noExn_ne z)) fun _ _ => rfl
      · cases h
    | edic =>
      dsimp only at h
      split at h
      · exact PE.eqf d_edic fun _ _ => rfl
      · cases h
    | bad =>
      dsimp only at h
      split at h
      · exact PE.eqf d_bad fun _ _ => rfl
      · cases h
    | lower a =>
      dsimp only at h
      split at h
      · simp only [Bool.and_eq_true, decide_eq_true_eq] at h
        obtain ⟨rfl, h2, h3, h4⟩ := h
        exact PE.eqf (d_lower (ih.e G' h4) h2 h3) fun _ _ => rfl
      · cases h
    | lset a =>
      dsimp only at h
      split at h
      · simp only [Bool.and_eq_true, decide_eq_true_eq] at h
        obtain ⟨rfl, rfl, h2, h3, h4, h5, h6⟩ := h
        obtain ⟨q0, q1, q2, q3, q4⟩ := G.cold h4
        obtain ⟨b1, b2⟩ := G.blt h2
        obtain ⟨b3, b4⟩ := G.blt h3
        exact PE.eqf (d_lset q3 b1 b2 b3 b4 (ih.e G' h6) h5) fun _ _ => rfl
      · cases h
    | srts a =>
      dsimp only at h
      split at h
      · simp only [Bool.and_eq_true, decide_eq_true_eq] at h
        obtain ⟨rfl, rfl, h2, h3, h4, h5, h6⟩ := h
        obtain ⟨q0, q1, q2, q3, q4⟩ := G.cold h4
        obtain ⟨b1, b2⟩ := G.blt h2
        obtain ⟨b3, b4⟩ := G.blt h3
        exact PE.eqf (d_srts q3 b1 b2 b3 b4 (ih.e G' h6) h5) fun _ _ => rfl
      · cases h
    | callk f m pm es =>
      dsimp only at h
      split at h
      · simp only [Bool.and_eq_true, decide_eq_true_eq] at h
        obtain ⟨h1, h2, h3, h4, rfl, h6, h7, h8⟩ := h
        obtain ⟨q0, q1, q2, q3, q4⟩ := G.cold h4
        obtain ⟨a1, a2, a3⟩ := G.tab.fn f _ h1
        obtain ⟨fd, ps, F, hb, hkb, hn⟩ := G.fns n (Nat.le_succ n) c.d (Nat.le_refl _) f _ (List.getElem?_eq_getElem a3)
        refine PE.eqf (d_kw F q4 (G.gl h2) a1 a2 (hkb _ h7 rfl) G.tk hn (ih.ks G' h8) (nm_ok h3).1 h6 rfl) fun ρ M => ?_
        rename_i kws _
        have el : (kws.filterMap (·.arg)).length = kws.length := by
          clear h7 h8 hkb
          induction kws with
          | nil => rfl
          | cons kw kws ihk =>
            obtain ⟨a, e, q⟩ := kw
            rw [List.all_cons, Bool.and_eq_true] at h6
            have h6a : a.isSome = true := h6.1
            cases a with
            | none => cases h6a
            | some a => rw [List.filterMap_cons]; exact congrArg (· + 1) (ihk h6.2)
        show _ = ((sys pg n).es c es ρ M).bind fun ds M => if ds.length = kws.length then (sys pg n).f c.d f (permL pm ds) M else .stuck
        rw [← el]
      · cases h
    | hcall q =>
      dsimp only at h
      split at h
      · simp only [Bool.and_eq_true, decide_eq_true_eq] at h
        obtain ⟨h1, h2, h3, h4⟩ := h
        split at h4
        · rename_i i hq
          obtain ⟨hh, k0, fl, e1, e2, hk, hi, HX⟩ := G.hotF _ hq
          obtain ⟨f, t, fd, qual, st, N, p0, kk, b1, b2, b3, b4, b5, b6, b7, b8, b9⟩ := G.tab.qn q _ h1
          obtain ⟨s1, s2, s3⟩ := G.slot h4
          subst e1
          obtain ⟨cd, cx⟩ := c
          have e2 : cx = some (k0, fl) := e2
          subst e2
          cases cd with
          | zero =>
            have z : stepE pg (sys pg n) ⟨0, some (k0, fl)⟩ (.hcall q) = fun _ _ => .stuck := rfl
            rw [z]
            exact ⟨fun _ _ _ _ _ _ ⟨_, _, _, _, w⟩ => w.elim⟩
          | succ d =>
            have rq := G.rq
            have rq1 : X.A.depth + 3 * (d + 1) + 8 < recursionLimit := rq.1
            have rq2 : X.A.units + 16 * (d + 1) + 100 < cLine := rq.2
            refine PE.eqf (d_hot (g := (sys pg n).ss ⟨d, some (k0, fl)⟩ t.2) HX hi s1 s2 s3 b4 b5 b6 (by omega) (G.gl h2) b2 b3 h3 b7 b8 fun cdv s H oe pn hx2 => ?_) fun ρ M => ?_
            · refine ih.ss (c := ⟨d, some (k0, fl)⟩) (L := ⟨N, defScope st, defScope st, some (some 0), false⟩) (hx := some ⟨some 0, hh.a, hh.dx⟩) (W := WF) {
                hN := rfl
                hsc := rfl
                nd := b5.nd
                kd := b5.kind
                un := by
                  show X.A.units + 3 + 65 < cLine
                  omega
                fnl := fun x h => ⟨h, .inl rfl⟩
                tk := takesF
                tab := G.tab
                cool := fun z => by cases z
                fns := fun m hm d' hd' f t hf => G.fns m (Nat.le_trans hm (Nat.le_succ n)) d' (Nat.le_trans hd' (Nat.le_succ d)) f t hf
                rq := by
                  constructor
                  · show X.A.depth + 1 + 3 * d + 8 < recursionLimit
                    omega
                  · show X.A.units + 3 + 16 * d + 100 < cLine
                    omega
                hotF := fun j z => by
                  cases z
                  exact ⟨_, k0, fl, rfl, rfl, hk, rfl, hx2⟩
                dfF := fun z => by cases z } b9
            · simp only [stepE, b1]
        · cases h4
      · cases h
    | rng1 a => cases h
    | rng2 a b => cases h
    | rng3 a b d => cases h
    | zip a b => cases h
    | isi ks a =>
      dsimp only at h
      split at h
      · simp only [Bool.and_eq_true, decide_eq_true_eq] at h
        obtain ⟨rfl, h2, h3, h4, h5⟩ := h
        obtain ⟨b1, b2⟩ := G.blt h2
        split at h5
        · obtain ⟨k1, k2, k3⟩ := snd_kinds G h5
          obtain ⟨p, e1⟩ := k2 0 _ _ rfl rfl
          obtain ⟨g1, g2⟩ := k3 _ (List.mem_singleton.mpr rfl)
          cases e1
          exact PE.eqf (d_isi1 b1 b2 g1 g2 (ih.e G' h4) h3) fun _ _ => rfl
        · cases h5
      · simp only [Bool.and_eq_true, decide_eq_true_eq] at h
        obtain ⟨rfl, h2, h3, h4, h5, h6⟩ := h
        obtain ⟨b1, b2⟩ := G.blt h2
        obtain ⟨k1, k2, k3⟩ := snd_kinds G h5
        exact PE.eqf (d_isiN b1 b2 k1 k2 k3 h6 (ih.e G' h4) h3) fun _ _ => rfl
      · cases h
    | xat f =>
      dsimp only at h
      split at h
      · simp only [Bool.and_eq_true, decide_eq_true_eq] at h
        obtain ⟨⟨rfl, h1⟩, h2⟩ := h
        split at h2
        · rename_i i q
          obtain ⟨hh, xk, fl, e1, e2, e3, e4, e5⟩ := G.hotF _ q
          obtain ⟨s1, s2, s3⟩ := G.slot h2
          rw [e1, e2]
          refine PE.eqf (d_xat (h := hh) (xk := xk) (fl := fl) e5 (G.tab.xt.xf xk e3) (G.tab.no _ h1 xk e3) e4 s1 s2 s3) fun _ _ => ?_
          show _ = (match c.x with
            | some (_, fs) => ofO (fs.lookup _) _
            | none => .stuck)
          rw [e2]
        · cases h2
      · cases h
    | xisi cs =>
      have stp : ∀ {xk : Nat} {fl : Flds} {cs : List Nat}, c.x = some (xk, fl) → ∀ (ρ : Env) (M : MH), (match pg.xcs[xk]? with
          | some z => Res.ok (D.bl (cs.any fun j => decide (j ∈ z.up))) M
          | none => .stuck) = stepE pg (sys pg n) c (.xisi cs) ρ M := fun {xk fl cs} e2 ρ M => by
        show _ = (match c.x with
          | some (k, _) => (match pg.xcs[k]? with
            | some x => Res.ok (D.bl (cs.any fun j => decide (j ∈ x.up))) M
            | none => .stuck)
          | none => .stuck)
        rw [e2]
      dsimp only at h
      split at h
      · simp only [Bool.and_eq_true, decide_eq_true_eq] at h
        obtain ⟨rfl, h2, h3, h5⟩ := h
        obtain ⟨b1, b2⟩ := G.blt h2
        split at h3
        · rename_i i q
          obtain ⟨hh, xk, fl, e1, e2, e3, e4, e5⟩ := G.hotF _ q
          obtain ⟨s1, s2, s3⟩ := G.slot h3
          split at h5
          · obtain ⟨k1, k2, k3⟩ := snd_cls G h5
            obtain ⟨y, p, e6, g1, g2, g3⟩ := k2 0 _ _ rfl rfl
            cases e6
            rw [e1, e2]
            exact PE.eqf (d_xis1 (h := hh) (xk := xk) (fl := fl) G.tab.xt e5 e3 e4 s1 s2 s3 (k3 _ (List.mem_singleton.mpr rfl)) b1 b2 g1 g2 g3) (stp e2)
          · cases h5
        · cases h3
      · simp only [Bool.and_eq_true, decide_eq_true_eq] at h
        obtain ⟨rfl, h2, h3, h5, h6⟩ := h
        obtain ⟨b1, b2⟩ := G.blt h2
        split at h3
        · rename_i i q
          obtain ⟨hh, xk, fl, e1, e2, e3, e4, e5⟩ := G.hotF _ q
          obtain ⟨s1, s2, s3⟩ := G.slot h3
          obtain ⟨k1, k2, k3⟩ := snd_cls G h5
          rw [e1, e2]
          exact PE.eqf (d_xisN (h := hh) (xk := xk) (fl := fl) G.tab.xt e5 e3 e4 s1 s2 s3 k3 b1 b2 k1 k2 h6) (stp e2)
        · cases h3
      · cases h
theorem snd_t (ih : SndAt pg T xa fa n) (G : Gd pg T xa fa (n + 1) c L hx W X) : ∀ {k : Nat} {e : Expr} {ir : E}, chkT T k L e ir = true → PT X e (tT X.K W xa hx c.x (stepE pg (sys pg n) c ir)) ∧ ∀ op xs p, e = .BoolOp op xs p → PW X e (tT X.K W xa hx c.x (stepE pg (sys pg n) c ir)) := by
  have G' := G.down (Nat.le_succ n)
  intro k
  induction k with
  | zero => intro e ir h; cases h
  | succ k ihk =>
    intro e ir h
    unfold chkT at h
    split at h
    · -- Compare
      refine ⟨?_, fun op xs p z => by cases z⟩
      split at h
      · simp only [Bool.and_eq_true, decide_eq_true_eq, Bool.not_eq_true'] at h
        obtain ⟨rfl, h1, h2, h3⟩ := h
        exact PT.eqf (t_cmp G.un (ih.e G' h2) (ih.e G' h3) (bmark _ _ (notSet h1))) fun _ _ => rfl
      · simp only [Bool.and_eq_true, decide_eq_true_eq, Bool.not_eq_true'] at h
        obtain ⟨rfl, rfl, h1, h2, h3, h4⟩ := h
        exact PT.eqf (t_chain G.un (ih.e G' h2) (ih.e G' h3) (ih.e G' h4) (lastSet h1)) fun _ _ => rfl
      · cases h
    · -- And
      rename_i xs p
      have w : PW X (.BoolOp .And xs p) (tT X.K W xa hx c.x (stepE pg (sys pg n) c ir)) := by
        split at h
        · exact pw_and1 (ihk h).1
        · rw [Bool.and_eq_true] at h
          exact PW.eqf (t_and (ih.t G' h.1) (ih.tw G' h.2)) fun _ _ => rfl
        · cases h
      exact ⟨w.pt, fun op xs p _ => w⟩
    · -- Or
      rename_i xs p
      have w : PW X (.BoolOp .Or xs p) (tT X.K W xa hx c.x (stepE pg (sys pg n) c ir)) := by
        split at h
        · exact pw_or1 (ihk h).1
        · rw [Bool.and_eq_true] at h
          exact PW.eqf (t_or (ih.t G' h.1) (ih.tw G' h.2)) fun _ _ => rfl
        · cases h
      exact ⟨w.pt, fun op xs p _ => w⟩
    · refine ⟨?_, fun op xs p z => by cases z⟩
      split at h
      · exact PT.eqf (t_not (ih.t G' h)) fun _ _ => rfl
      · cases h
    · have hp : plainT e = true ∧ True := by
        split at h <;> (rw [Bool.and_eq_true] at h; exact ⟨h.1, trivial⟩)
      refine ⟨?_, fun op xs p z => by rw [z] at hp; cases hp.1⟩
      split at h
      · rw [Bool.and_eq_true] at h
        exact PT.eqf (t_truth (ih.e G' h.2) (plainT_ok h.1)) fun _ _ => rfl
      · rw [Bool.and_eq_true] at h
        exact t_val (snd_e ih G h.2) (plainT_ok h.1)
end
end LX

set_option Elab.async false
set_option linter.all false
set_option maxRecDepth 100000
set_option maxHeartbeats 4000000
/-! LxSnd3: soundness of statements. -/
namespace LX
open PySem L2 PyProof.Rows
section
variable {pg : Pg} {T : Tb} {xa fa : Nat → Addr} {n k : Nat} {c : Cf} {L : Sc} {hx : Option Hx} {W : WX} {X : Cx} {e : Expr} {es : List Expr} {st : Stmt} {sts : List Stmt} {η : Option (Nat × Flds)}
theorem swap_ok {ts vs : List Expr} {k1 k2 : Nat} {p1 p2 : Pos} {env : PySem.Env} {r : Option (List Str)} (hk : env.scope.kind = .function) (h : swapB ts vs env.scope = some r) : swappedStores [.Tuple ts k1 p1] (.Tuple vs k2 p2) env = pure r := by
  have hb : env.blockKind = .function := by unfold PySem.Env.blockKind; rw [hk]; rfl
  have hb2 : (env.blockKind != .function) = false := by rw [hb]; rfl
  unfold swapB at h
  unfold swappedStores
  simp only [hb2, Bool.or_false]
  split at h
  · cases h
    rw [if_pos (by assumption)]
  · rw [if_neg (by assumption)]
    split at h
    · cases h
      rw [if_pos (by assumption)]
    · rw [if_neg (by assumption)]
      generalize hn : List.filterMap _ ts = names
      have h : (if (names.length != ts.length || names.eraseDups.length != names.length) = true then some none else
          if vs.all (foldedForSure 8) = true then some none else if vs.all (constantsAlone 8) = true then none else some (some names)) = some r := by
        rw [← hn]
        exact h
      split at h
      · cases h
        rw [if_pos (by assumption)]
      · rw [if_neg (by assumption)]
        split at h
        · cases h
          rw [if_pos (by assumption)]
        · rw [if_neg (by assumption)]
          split at h
          · cases h
          · cases h
            rw [if_neg (by assumption)]
theorem swaps_of {e : Expr} {t : Option Expr} {l : Nat} {env : PySem.Env} (h : isLc e = false) : swapsWith e t l env = pure false := by
  cases e with
  | ListComp _ _ _ _ => cases h
  | SetComp _ _ _ _ => cases h
  | DictComp _ _ _ _ _ => cases h
  | _ => rfl
theorem s_par3 {x y z : Str} {i j l : Nat} {a b d : Expr} {px py pz pt pos : Pos} {kt k2 : Nat} {pt2 : Pos} {fx fb fd : Env → MH → Res D} (hc : X.calm = true) (hN : X.N.Nodup) (hi : X.N[i]? = some x) (hj : X.N[j]? = some y) (hl : X.N[l]? = some z) (hij : i ≠ j) (hil : i ≠ l) (hjl : j ≠ l)
    (hlx : X.env.scope.names.lookup x = some .local) (hly : X.env.scope.names.lookup y = some .local) (hlz : X.env.scope.names.lookup z = some .local)
    (ha : PE X a (tD X.K W xa hx η fx)) (hb : PE X b (tD X.K W xa hx η fb)) (hd : PE X d (tD X.K W xa hx η fd)) (hsa : noStar a = true) (hsb : noStar b = true) (hsd : noStar d = true) (hf1 : freeI hx i) (hf2 : freeI hx j) (hf3 : freeI hx l)
    (hw : swappedStores [.Tuple [.Name x px, .Name y py, .Name z pz] kt pt] (.Tuple [a, b, d] k2 pt2) X.env = pure (some [x, y, z])) :
    PS X (.Assign [.Tuple [.Name x px, .Name y py, .Name z pz] kt pt] (.Tuple [a, b, d] k2 pt2) pos) (tS X.K W xa hx η fun ρ M => (fx ρ M).sbind ρ fun x M => (fb ρ M).sbind ρ fun y M => (fd ρ M).sbind ρ fun z M => .nx (((ρ.set i (some x)).set j (some y)).set l (some z)) M) :=
  PS.imp (ps_par3 hc hN hi hj hl hij hil hjl hlx hly hlz (pa_cons ha (pa_cons hb (pa_cons hd pa_nil (star1 (noStar_ne hsd))) (star1 (noStar_ne hsb))) (star1 (noStar_ne hsa))) hw rfl) fun D σ H q => tR.sseq q fun β ρ M d1 v H1 sr r1 h1 => tR.sseq2 sr h1 fun β2 M2 d2 v2 H2 sr2 mo r2 h2 =>
    tR.sseq2 sr2 h2 fun β3 M3 d3 v3 H3 sr3 mo3 r3 h3 => ⟨v, v2, v3, rfl, h3 β3 H3 _ (Ext.refl ..) (((sr3.set (mo3 (mo r1)) hf1).set (mo3 r2) hf2).set r3 hf3)⟩
theorem ps_setLc' {mb : Bool} {x : Str} {i : Nat} {py pos sp : Pos} {elt tgE iter : Expr} {ifs : List Expr} {scope : Scope} {own : List (Str × Nat)} {g : G} {it te : E} {t : Option E} {s : Sys} {c : Cf} (hc : X.calm = true) (hN : X.N.Nodup) (hy : X.N[i]? = some x) (hyl : X.env.scope.names.lookup x = some .local)
    (hsw : swapsWith (.ListComp elt [⟨tgE, iter, ifs, 0⟩] scope pos) (some (.Name x py)) sp.line X.env = pure true) 
    (hi : PI X tgE iter (tI X.K W xa none none (itE s c it))) (ok : BlkOk X.N X.env.scope scope own) (hsl : ∀ i ∈ slots g, i ∈ own.map (·.2))
    (hg : ∀ (s : Shared) (H : Hp) (C : Addr) (cl : List (Str × Addr)) (fp : List Addr), PG (X.blk s H scope (compEnvC scope cl C X.env) fp) tgE (gS X.K g))
    (ht : ∀ (s' : Shared) (H : Hp) (C : Addr) (cl : List (Str × Addr)) (fp : List Addr), PTs (X.blk s' H scope (compEnvC scope cl C X.env) fp) ifs (tTs X.K xa (tests s c t)))
    (he : ∀ (s' : Shared) (H : Hp) (C : Addr) (cl : List (Str × Addr)) (fp : List Addr), PE (X.blk s' H scope (compEnvC scope cl C X.env) fp) elt (tD X.K WF xa none none (s.e c te)))
    (hs : ∀ x, foldedSetIterable iter X.env x = pure x) :
    PS X (.Assign [.Name x py] (.ListComp elt [⟨tgE, iter, ifs, 0⟩] scope pos) sp) (tS X.K W xa none none fun ρ M => ((itE s c it ρ M).bind fun p M => (noExn (lcL s c g p.1 p.2 t te (wipeE ρ (own.map (·.2))) p.1 [] M)).bind fun l M => LX.newL mb l M).sbind ρ fun d M => .nx (ρ.set i (some d)) M) :=
  PS.imp (ps_setLc hc hN hy hyl hsw hi ok hg ht he hs) fun D σ H q => lc_read hsl (tR.sseq q fun β ρ M d v H1 sr r1 h1 => h1 β H1 _ (Ext.refl ..) (sr.set r1 fun h z => by cases z))
theorem snd_ss (ih : SndAt pg T xa fa n) (G : Gd pg T xa fa n c L hx W X) {irs : List S} (h : chkSs T k L sts irs = true) : PSs X sts (tS X.K W xa hx c.x (stepSs (sys pg n) c irs)) := by
  cases k with
  | zero => cases h
  | succ k =>
    unfold chkSs at h
    split at h
    · exact PSs.eqf ss_nil fun _ _ => rfl
    · rw [Bool.and_eq_true] at h
      exact PSs.eqf (ss_cons (ih.s G h.1) (ih.ss G h.2)) fun _ _ => rfl
    · cases h
/-- the suite's context -/
theorem Gd.suite (G : Gd pg T xa fa n c L hx W X) {h : Hx} {oe : Obj} {pn : List (Addr × Obj)} {xk : Nat} {fl : Flds} {i : Option Nat} (hk : xk < pg.live) (hi : h.i = i) (hX : HotX (X.suite h.a ((h.a, oe) :: pn)) (xa xk) h) :
    Gd pg T xa fa n { c with x := some (xk, fl) } ⟨L.N, L.sc, L.own, some i, false⟩ (some h) WF (X.suite h.a ((h.a, oe) :: pn)) where
  hN := G.hN
  hsc := G.hsc
  nd := G.nd
  kd := G.kd
  un := G.un
  fnl := G.fnl
  tk := takesF
  tab := G.tab
  cool := fun z => by cases z
  fns := G.fns
  rq := G.rq
  hotF := fun j z => by
    cases z
    exact ⟨h, xk, fl, rfl, rfl, hk, hi, hX⟩
  dfF := fun z => by cases z
theorem Gd.tr (G : Gd pg T xa fa n c L hx W X) (hd : L.df = true) {W' : WX} {pn : List (Addr × Obj)} {xe : Value → Shared → Prop} (tk : Takes (X.tr pn xe) W') (po : PassesOwn (model X.prog X.w) X.A X.env xe) : Gd pg T xa fa n c L hx W' (X.tr pn xe) where
  hN := G.hN
  hsc := G.hsc
  nd := G.nd
  kd := G.kd
  un := G.un
  fnl := G.fnl
  tk := tk
  tab := G.tab
  cool := G.cool
  fns := G.fns
  rq := G.rq
  hotF := fun j z => by
    have q := (G.dfF hd).2.2.2
    rw [q] at z
    cases z
  dfF := fun z => ⟨po, (G.dfF z).2⟩
theorem snd_hs (ih : SndAt pg T xa fa n) (Γ : Gd pg T xa fa n c L hx W X) : ∀ {k : Nat} {hds : List ExceptHandler} {hs : List (Nat × Option Nat × List S)}, chkHs T k L hds hs = true → ClOk X xa pg (fun b k fl => (sys pg n).ss { c with x := some (k, fl) } b) hds hs := by
  intro k
  induction k with
  | zero => intro hds hs h; cases h
  | succ k ihk =>
    intro hds hs h
    unfold chkHs at h
    split at h
    · exact .nil
    · simp only [Bool.and_eq_true, decide_eq_true_eq] at h
      obtain ⟨h1, h2, h3, h4, h5⟩ := h
      obtain ⟨a1, a2⟩ := Γ.tab.xc _ _ h1
      exact .cons (.inl ⟨rfl, rfl⟩) (Γ.gl h2) a1 h3 a2 (fun xk fl hh oe pn hk hi hX => ih.ss (Γ.suite (fl := fl) hk hi hX) h4) (ihk h5)
    · simp only [Bool.and_eq_true, decide_eq_true_eq] at h
      obtain ⟨h0, h1, h2, h3, h4, h5⟩ := h
      obtain ⟨l1, l2, l3⟩ := Γ.lcl h0
      obtain ⟨a1, a2⟩ := Γ.tab.xc _ _ h1
      exact .cons (.inr ⟨_, _, rfl, rfl, l1, l2⟩) (Γ.gl h2) a1 h3 a2 (fun xk fl hh oe pn hk hi hX => ih.ss (Γ.suite (fl := fl) hk hi hX) h4) (ihk h5)
    · cases h
end
end LX

set_option Elab.async false
set_option linter.all false
set_option maxRecDepth 100000
set_option maxHeartbeats 4000000
/-! LxSnd4: soundness of statements, of defs. -/
namespace LX
open PySem L2 PyProof.Rows
section
variable {pg : Pg} {T : Tb} {xa fa : Nat → Addr} {n k : Nat} {c : Cf} {L : Sc} {hx : Option Hx} {W : WX} {X : Cx} {e : Expr} {es : List Expr} {st : Stmt} {sts : List Stmt} {η : Option (Nat × Flds)}
theorem clause1 {k j : Nat} {i : Option Nat} {b : List S} {xc : Xc} (h : pg.xcs[k]? = some xc) : clause pg k [(j, i, b)] = if j ∈ xc.up then some (i, b) else none := by
  unfold clause
  rw [h]
  dsimp only
  split
  · rfl
  · rfl
theorem snd_s (ihs : ∀ m, m ≤ n → SndAt pg T xa fa m) (Γ : Gd pg T xa fa (n + 1) c L hx W X) {ir : S} (h : chkS T k L st ir = true) : PS X st (tS X.K W xa hx c.x (stepS pg (sys pg n) c ir)) := by
  have Γ' := Γ.down (Nat.le_succ n)
  have ih := ihs n (Nat.le_refl n)
  cases k with
  | zero => cases h
  | succ k =>
    unfold chkS at h
    cases ir with
    | expr e =>
      dsimp only at h
      split at h
      · simp only [Bool.and_eq_true, Bool.not_eq_true'] at h
        exact PS.eqf (s_expr (ih.e Γ' h.2) (swaps_of h.1)) fun _ _ => rfl
      · cases h
    | ret e =>
      dsimp only at h
      split at h
      · exact PS.eqf (s_ret (ih.e Γ' h)) fun _ _ => rfl
      · cases h
    | retN =>
      dsimp only at h
      split at h
      · exact PS.eqf s_retN fun _ _ => rfl
      · cases h
    | pass =>
      dsimp only at h
      split at h
      · exact PS.eqf s_pass fun _ _ => rfl
      · cases h
    | brk =>
      dsimp only at h
      split at h
      · exact PS.eqf s_brk fun _ _ => rfl
      · cases h
    | cont =>
      dsimp only at h
      split at h
      · exact PS.eqf s_cont fun _ _ => rfl
      · cases h
    | set i e =>
      dsimp only at h
      split at h
      · rename_i y py elt gs scope pos sp
        rw [Bool.and_eq_true, Bool.or_eq_true] at h
        obtain ⟨h1, h2⟩ := h
        rcases h1 with h1 | h1
        · unfold setLcC at h1
          simp only [Bool.and_eq_true, Bool.not_eq_true'] at h1
          obtain ⟨h3, h4, h5⟩ := h1
          obtain ⟨l1, l2, l3⟩ := Γ.lcl h3
          -- the list comprehension itself
          cases k with
          | zero => cases h2
          | succ k =>
            unfold chkE at h2
            cases e with
            | lc m own tg it t te =>
              dsimp only at h2
              split at h2
              · rename_i elt' tgE iter ifs scope' pos' heq
                cases heq
                cases n with
                | zero =>
                  have z : stepS pg (sys pg 0) c (.set i (.lc m own tg it t te)) = fun _ _ => .stuck := rfl
                  rw [z]
                  exact ⟨fun _ _ _ _ _ _ ⟨_, _, _, _, q⟩ => q.elim⟩
                | succ n =>
                  obtain ⟨q1, q2, q3, a3, a4, a5, ho, a6, a7, a8, a9⟩ := snd_lc (ihs n (Nat.le_succ n)) (Γ'.down (Nat.le_succ n)) h2
                  rw [q1, q2]
                  refine PS.eqf (ps_setLc' (mb := m) q3 Γ.nd l1 l2 (sw_true Γ.kd l2 h4 h5) a3 a4 a5 a6 a7 a8 a9) fun _ _ => ?_
                  rw [ho]
                  rfl
              · cases h2
            | _ => cases h2
        · rw [Bool.and_eq_true, Bool.or_eq_true, Bool.not_eq_true', decide_eq_true_eq] at h1
          obtain ⟨h3, h4⟩ := h1
          obtain ⟨l1, l2, l3, l4⟩ := Γ.loc h3
          refine PS.eqf (s_set Γ.nd l1 l2 l3 l4 (ih.e Γ' h2) ?_) fun _ _ => rfl
          rcases h4 with h4 | h4
          · unfold swapsWith
            simp only [Expr.pos, h4, Bool.and_false, Bool.false_and]
          · have hk : (X.env.kindOf y == some .local) = false := by
              have e : X.env.kindOf y = some .cell := by
                rw [← Γ.hsc] at h4
                exact h4
              rw [e]
              rfl
            unfold swapsWith
            simp only [hk, Bool.and_false, Bool.false_and]
      · simp only [Bool.and_eq_true, Bool.not_eq_true'] at h
        obtain ⟨h1, h2, h3⟩ := h
        obtain ⟨l1, l2, l3, l4⟩ := Γ.loc h1
        exact PS.eqf (s_set Γ.nd l1 l2 l3 l4 (ih.e Γ' h3) (swaps_of h2)) fun _ _ => rfl
      · cases h
    | unp is e =>
      dsimp only at h
      split at h
      · rename_i ts k1 p1 x sp
        simp only [Bool.and_eq_true, Bool.not_eq_true'] at h
        obtain ⟨h1, h2, h3, h4, h5⟩ := h
        obtain ⟨q0, q1, q2, q3, q4⟩ := Γ.cold h1
        have h2' : (decide (is.length = ts.length) && (is.zip ts).all fun p => match p.2 with
          | .Name x _ => locC L x p.1
          | _ => false) = true := h2
        rw [Bool.and_eq_true, decide_eq_true_eq] at h2'
        obtain ⟨g1, g2, g3, g4⟩ := snd_names Γ h2'.2 h2'.1
        refine PS.eqf (s_unp q3 h2'.1 g1 Γ.nd g3 g4 g2 (ih.e Γ' h5) (show swapsWith x (some (.Tuple ts k1 p1)) sp.line X.env = pure false from swaps_of h3) ?_) fun _ _ => rfl
        split at h4
        · exact swap_ok Γ.kd (by rw [Γ.hsc]; exact of_decide_eq_true h4)
        · rename_i hnt
          cases x with
          | Tuple vs k p => exact absurd rfl (hnt vs k p)
          | _ => rfl
      · cases h
    | unl is e =>
      dsimp only at h
      split at h
      · rename_i ts k1 p1 x sp
        simp only [Bool.and_eq_true, Bool.not_eq_true'] at h
        obtain ⟨h1, h2, h3, h4, h5⟩ := h
        obtain ⟨q0, q1, q2, q3, q4⟩ := Γ.cold h1
        have h2' : (decide (is.length = ts.length) && (is.zip ts).all fun p => match p.2 with
          | .Name x _ => locC L x p.1
          | _ => false) = true := h2
        rw [Bool.and_eq_true, decide_eq_true_eq] at h2'
        obtain ⟨g1, g2, g3, g4⟩ := snd_names Γ h2'.2 h2'.1
        refine PS.eqf (s_unl q3 h2'.1 g1 Γ.nd g3 g4 g2 (ih.e Γ' h5) (show swapsWith x (some (.Tuple ts k1 p1)) sp.line X.env = pure false from swaps_of h3) ?_) fun _ _ => rfl
        split at h4
        · exact swap_ok Γ.kd (by rw [Γ.hsc]; exact of_decide_eq_true h4)
        · rename_i hnt
          cases x with
          | Tuple vs k p => exact absurd rfl (hnt vs k p)
          | _ => rfl
      · cases h
    | par i j a b =>
      dsimp only at h
      split at h
      · simp only [Bool.and_eq_true, decide_eq_true_eq] at h
        obtain ⟨h1, h2, h3, h4, h5, h6, h7, h8, h9⟩ := h
        obtain ⟨q0, q1, q2, q3, q4⟩ := Γ.cold h1
        obtain ⟨l1, l2, l3⟩ := Γ.lcl h2
        obtain ⟨m1, m2, m3⟩ := Γ.lcl h3
        exact PS.eqf (s_par q3 Γ.nd l1 m1 h4 l2 m2 (ih.e Γ' h8) (ih.e Γ' h9) h5 h6 l3 m3 (swap_ok Γ.kd (by rw [Γ.hsc]; exact h7))) fun _ _ => rfl
      · cases h
    | par3 i j l a b d =>
      dsimp only at h
      split at h
      · simp only [Bool.and_eq_true, decide_eq_true_eq] at h
        obtain ⟨h1, h2, h3, h4, h5, h6, h7, h8, h9, h10, h11, h12, h13, h14⟩ := h
        obtain ⟨q0, q1, q2, q3, q4⟩ := Γ.cold h1
        obtain ⟨l1, l2, l3⟩ := Γ.lcl h2
        obtain ⟨m1, m2, m3⟩ := Γ.lcl h3
        obtain ⟨r1, r2, r3⟩ := Γ.lcl h4
        exact PS.eqf (s_par3 q3 Γ.nd l1 m1 r1 h5 h6 h7 l2 m2 r2 (ih.e Γ' h12) (ih.e Γ' h13) (ih.e Γ' h14) h8 h9 h10 l3 m3 r3 (swap_ok Γ.kd (by rw [Γ.hsc]; exact h11))) fun _ _ => rfl
      · cases h
    | put o i e =>
      dsimp only at h
      split at h
      · rename_i q j sp x pos
        simp only [Bool.and_eq_true, Bool.not_eq_true'] at h
        obtain ⟨h1, h2, h3, h4, h5⟩ := h
        refine PS.eqf (s_put (ih.e Γ' h4) (ih.e Γ' h5) (ih.e Γ' h3) (fun v => ?_) (show swapsWith x (some (.Subscript q j sp)) pos.line X.env = pure false from swaps_of h2)) fun _ _ => rfl
        cases j with
        | Slice l u s p => cases h1
        | _ => rfl
      · cases h
    | aug i o e =>
      dsimp only at h
      split at h
      · simp only [Bool.and_eq_true, decide_eq_true_eq] at h
        obtain ⟨rfl, h1, h2⟩ := h
        obtain ⟨l1, l2, l3, l4⟩ := Γ.loc h1
        exact PS.eqf (s_aug Γ.nd l1 l2 l3 l4 (ih.e Γ' h2)) fun _ _ => rfl
      · cases h
    | ite t a b =>
      dsimp only at h
      split at h
      · simp only [Bool.and_eq_true] at h
        obtain ⟨h1, h2, h3⟩ := h
        exact PS.eqf (s_ite (ih.t Γ' h1) (ih.ss Γ' h2) (ih.ss Γ' h3)) fun _ _ => rfl
      · cases h
    | wh t b =>
      dsimp only at h
      split at h
      · simp only [Bool.and_eq_true] at h
        obtain ⟨h1, h2, h3⟩ := h
        obtain ⟨po, _⟩ := Γ.dfF h1
        refine PS.eqf (s_wh (n := n + 1) (F := fun m => (sys pg m).s c (.wh t b)) (f := fun m => (sys pg m).e c t) (g := fun m => (sys pg m).ss c b) po (fun m hm => (ihs m (Nat.le_of_lt_succ hm)).t (Γ.down (Nat.le_of_lt hm)) h2) (fun m hm => (ihs m (Nat.le_of_lt_succ hm)).ss (Γ.down (Nat.le_of_lt hm)) h3) (fun _ _ => rfl) (fun m hm ρ M => rfl)) fun _ _ => rfl
      · cases h
    | «for» tg it b =>
      dsimp only at h
      split at h
      · simp only [Bool.and_eq_true, Bool.not_eq_true'] at h
        obtain ⟨h1, h2, h3, h4, h5⟩ := h
        obtain ⟨po, _, _, hh⟩ := Γ.dfF h1
        obtain ⟨_, _, q3, _⟩ := Γ.cool hh
        obtain ⟨g1, g2⟩ := snd_g Γ q3 h4
        exact PS.eqf (s_for po q3 (snd_i ih Γ' h3) g1 g2 (ih.ss Γ' h5) (fold_of h2)) fun _ _ => rfl
      · cases h
    | raise k es =>
      dsimp only at h
      split at h
      · simp only [Bool.and_eq_true, decide_eq_true_eq] at h
        obtain ⟨h1, h2, h3, h4, h5, h6⟩ := h
        obtain ⟨q0, q1, q2, q3, q4⟩ := Γ.cold h1
        obtain ⟨a1, a2⟩ := Γ.tab.xc _ _ h2.1
        have ex := List.getElem?_eq_getElem a2
        rw [q1, q2]
        have ha := ih.es Γ' h6
        rw [q1, q2] at ha
        obtain ⟨I, nd⟩ := Γ.tab.ini k h2.2 _ ex
        exact PS.eqf (s_raise (P := pg) q3 Γ.tk ex I nd (q4.mono (Nat.le_add_left 2 c.d)) (Γ.gl h3) a1 (nm_ok h4).1 ha (by rw [List.all_cons]; exact h5)) fun _ _ => rfl
      · cases h
    | «try» b hs =>
      dsimp only at h
      split at h
      · split at h
        · rename_i j i hb
          simp only [Bool.and_eq_true, decide_eq_true_eq] at h
          obtain ⟨h1, h2, h3, h4, h5, h6, h7⟩ := h
          obtain ⟨po, hst, hf, hh⟩ := Γ.dfF h1
          obtain ⟨q1, q2, q3, q4⟩ := Γ.cool hh
          obtain ⟨l1, l2, l3⟩ := Γ.lcl h2
          obtain ⟨a1, a2⟩ := Γ.tab.xc _ _ h3
          rw [q1, q2]
          refine PS.eqf (s_try1 (P := pg) (i := i) (j := j) (gb := (sys pg n).ss c b) (g := fun k fl => (sys pg n).ss { c with x := some (k, fl) } hb) Γ.tab.xt hst hf Γ.nd l1 l2 (Γ.gl h4) a1 h5 a2 Γ.tk (fun W' pn xe tk po => ?_) fun xk fl hh oe pn hk hi hX => ih.ss (Γ'.suite (fl := fl) hk hi hX) h7) fun ρ M => ?_
          · have z := ih.ss (Γ'.tr h1 tk po) h6
            rw [q1, q2] at z
            exact z
          · show _ = (match (sys pg n).ss c b ρ M with
              | .exn k fs ρ M => if k < pg.live then match clause pg k [(j, some i, hb)] with
                | some (n', b) => if slotIn n' ρ then ((sys pg n).ss { c with x := some (k, fs) } b (gone n' ρ) M).map (gone n') else .stuck
                | none => .exn k fs ρ M
                else .stuck
              | r => r)
            cases (sys pg n).ss c b ρ M with
            | exn xk fs ρ' M' =>
              dsimp only
              by_cases hk : xk < pg.live
              · have hk2 := Nat.lt_of_lt_of_le hk Γ.tab.xt.le
                rw [if_pos hk, if_pos hk, List.getElem?_eq_getElem hk2, clause1 (List.getElem?_eq_getElem hk2)]
                dsimp only
                split <;> rfl
              · rw [if_neg hk, if_neg hk]
            | _ => rfl
        · cases h
      · simp only [Bool.and_eq_true] at h
        obtain ⟨h1, h2, h3⟩ := h
        obtain ⟨po, hst, hf, hh⟩ := Γ.dfF h1
        obtain ⟨q1, q2, q3, q4⟩ := Γ.cool hh
        rw [q1, q2]
        refine PS.eqf (s_tryM (P := pg) (gb := (sys pg n).ss c b) (G := fun b k fl => (sys pg n).ss { c with x := some (k, fl) } b) Γ.tab.xt hst hf Γ.nd Γ.tk (fun W' pn xe tk po => ?_) (snd_hs ih Γ' h3)) fun ρ M => rfl
        have z := ih.ss (Γ'.tr h1 tk po) h2
        rw [q1, q2] at z
        exact z
      · cases h
theorem snd_n : ∀ n, SndAt pg T xa fa n := by
  intro n
  induction n using Nat.strongRecOn with
  | ind n ih =>
    cases n with
    | zero => exact snd_0
    | succ n =>
      have ihn := ih n (Nat.lt_succ_self n)
      exact {
        e := fun G h => snd_e ihn G h
        es := fun G h => snd_es ihn (G.down (Nat.le_succ n)) h
        ks := fun G h => snd_ks ihn (G.down (Nat.le_succ n)) h
        t := fun G h => (snd_t ihn G h).1
        tw := fun G h => (snd_t ihn G h).2 _ _ _ rfl
        s := fun G h => snd_s (fun m hm => ih m (Nat.lt_succ_of_le hm)) G h
        ss := fun G h => snd_ss ihn (G.down (Nat.le_succ n)) h }
end
end LX

set_option Elab.async false
set_option linter.all false
set_option maxRecDepth 100000
set_option maxHeartbeats 4000000
/-! LxFn: defs keep their promises. -/
namespace LX
open PySem L2 PyProof.Rows
section
variable {K : PySem.W.Frag} {H : Hp} {β : Bt} {N n : Nat}
mutual
theorem Rep.cut (h : n ≤ N) : ∀ {d : D} {v : V}, D.und n d = true → Rep K H β N d v → Rep K H β n d v
  | .non, _, _, r => r
  | .bl _, _, _, r => r
  | .int _, _, _, r => r
  | .str _, _, _, r => r
  | .tup xs, v, u, r => by
    unfold Rep at r ⊢
    obtain ⟨a, vs, rfl, q, rs⟩ := r
    exact ⟨a, vs, rfl, q, Reps.cut h u rs⟩
  | .tl xs, v, u, r => by
    unfold Rep at r ⊢
    obtain ⟨a, vs, rfl, q, hn, rs⟩ := r
    exact ⟨a, vs, rfl, q, ⟨fun j hj => hn.1 j (Nat.lt_of_lt_of_le hj h), hn.2⟩, Reps.cut h u rs⟩
  | .fl xs, v, u, r => by
    unfold Rep at r ⊢
    obtain ⟨a, vs, rfl, q, rs⟩ := r
    exact ⟨a, vs, rfl, q, Reps.cut h u rs⟩
  | .ref k, v, u, r => by
    unfold Rep at r ⊢
    exact ⟨of_decide_eq_true u, r.2⟩
  | .edic kvs, v, u, r => by
    unfold Rep at r ⊢
    obtain ⟨a, rfl, q, hn⟩ := r
    exact ⟨a, rfl, q, ⟨fun j hj => hn.1 j (Nat.lt_of_lt_of_le hj h), hn.2⟩⟩
theorem Reps.cut (h : n ≤ N) : ∀ {ds : List D} {vs : List V}, D.undAll n ds = true → Reps K H β N ds vs → Reps K H β n ds vs
  | [], _, _, r => r
  | d :: ds, vs, u, r => by
    have u : (D.und n d && D.undAll n ds) = true := u
    rw [Bool.and_eq_true] at u
    unfold Reps at r ⊢
    obtain ⟨v, w, rfl, r1, r2⟩ := r
    exact ⟨v, w, rfl, Rep.cut h u.1 r1, Reps.cut h u.2 r2⟩
end
theorem HeapR.cut {M : MH} (hp : HeapR K H β M) (h : n ≤ M.length) (u : MH.und n (M.take n) = true) : HeapR K H β (M.take n) := by
  have hl : (M.take n).length = n := by rw [List.length_take]; omega
  refine ⟨fun j o e => ?_, fun a b ha hb => hp.inj a b (by omega) (by omega), hp.prot⟩
  rw [List.getElem?_take] at e
  split at e
  · have q := hp.cell j o e
    have uo : MO.und n o = true := List.all_eq_true.mp u o (List.mem_iff_getElem?.mpr ⟨j, by rw [List.getElem?_take, if_pos (by assumption)]; exact e⟩)
    rw [hl]
    cases o with
    | lst xs =>
      obtain ⟨vs, q, r⟩ := q
      exact ⟨vs, q, Reps.cut h uo r⟩
  · cases e
theorem Ext.cut {β' : Bt} {N' : Nat} {H' : Hp} (e : Ext β N H β' N' H') : Ext β N H β' N H' := ⟨Nat.le_refl _, e.agree, e.fr, fun n h1 h2 => absurd h2 (Nat.not_lt.mpr h1), e.tr, e.pp⟩
theorem freeze_read {W : WX} {xa : Nat → Addr} {σ0 : L2.St} {Q : VK} {M' : MH} {d : D} (hN : ∀ a, a ∈ β.p → H a ≠ none) (q : Post K W xa (RD K) σ0 H β N (freeze N d M') Q) : ∀ β' H' v, Ext β N H β' M'.length H' → HeapR K H' β' M' → Rep K H' β' M'.length d v → Q v H' := by
  intro β' H' v e hp r
  have hl : (M'.take N).length = N := by rw [List.length_take]; have := e.le; omega
  have plain : ∀ d', freeze N d M' = (if D.und N d' && MH.und N (M'.take N) then .ok d' (M'.take N) else .stuck) → Rep K H' β' M'.length d' v → Q v H' := fun d' h r' => by
    rw [h] at q
    by_cases hu : (D.und N d' && MH.und N (M'.take N)) = true
    · rw [if_pos hu] at q
      rw [Bool.and_eq_true] at hu
      exact q β' H' v (by rw [hl]; exact e.cut) (hp.cut e.le hu.2) (by show Rep _ _ _ _ _ _; rw [hl]; exact Rep.cut e.le hu.1 r')
    · rw [if_neg hu] at q
      exact q.elim
  cases d with
  | ref k =>
    unfold freeze at q
    dsimp only at q
    by_cases hk : k < N
    · rw [if_pos hk] at q
      by_cases hu : MH.und N (M'.take N) = true
      · rw [if_pos hu] at q
        exact q β' H' v (by rw [hl]; exact e.cut) (hp.cut e.le hu) (by show Rep _ _ _ _ _ _; rw [hl]; exact Rep.cut e.le (decide_eq_true hk) r)
      · rw [if_neg hu] at q
        exact q.elim
    · rw [if_neg hk] at q
      cases f : lstAt M' k with
      | none => rw [f] at q; exact q.elim
      | some xs =>
        rw [f] at q
        dsimp only at q
        by_cases hu : (D.undAll N xs && MH.und N (M'.take N)) = true
        · rw [if_pos hu] at q
          rw [Bool.and_eq_true] at hu
          obtain ⟨hn, vs, h1, h2⟩ := hp.lst f
          unfold Rep at r
          obtain ⟨_, rfl⟩ := r
          refine q β' H' (.ref (β' k)) (by rw [hl]; exact e.cut) (hp.cut e.le hu.2) ?_
          show Rep _ _ _ _ _ _
          unfold Rep
          refine ⟨β' k, vs, rfl, h1, ⟨fun j hj z => ?_, fun z => ?_⟩, by rw [hl]; exact Reps.cut e.le hu.1 h2⟩
          · rw [hl] at hj
            have := hp.inj j k (Nat.lt_of_lt_of_le hj e.le) hn z
            omega
          · rw [e.pp] at z
            exact hN _ z (e.new k (Nat.le_of_not_lt hk) hn)
        · rw [if_neg hu] at q
          exact q.elim
  | _ => exact plain _ rfl r
/-- a def's end -/
theorem end_read {xa : Nat → Addr} {Q : VK} {fz : Bool} {r : SRes} {M : MH} {σ0 : L2.St} {E : XK} (hp : HeapR K H β M) (q : Post K (fun cls d _ H' => E cls d H') xa (RD K) σ0 H β M.length (endF fz M.length r) Q) :
    PostS K (fun cls d _ H' => E cls d H') xa none none H β M.length r { nx := fun _ H' => Q .non H', rt := Q } := by
  cases r with
  | rt d M' =>
    cases fz with
    | false => exact q
    | true => exact freeze_read hp.prot q
  | nx ρ M' =>
    cases fz with
    | false => exact fun β' H' σ' e s => q β' H' .non e s.heap rfl
    | true => exact fun β' H' σ' e s => freeze_read hp.prot (d := .non) q β' H' .non e s.heap rfl
  | exn k fs ρ M' =>
    cases fz with
    | false => exact fun β' H' σ' dx fvs e s a b => q β' H' dx fvs e s.heap a b
    | true =>
      intro β' H' σ' dx fvs e s a b
      have q : Post K (fun cls d _ H' => E cls d H') xa (RD K) σ0 H β M.length (if D.undAll M.length (fs.map (·.2)) && MH.und M.length (M'.take M.length) then .exn k fs (M'.take M.length) else .stuck) Q := q
      have hl : (M'.take M.length).length = M.length := by rw [List.length_take]; have := e.le; omega
      by_cases hu : (D.undAll M.length (fs.map (·.2)) && MH.und M.length (M'.take M.length)) = true
      · rw [if_pos hu] at q
        rw [Bool.and_eq_true] at hu
        refine q β' H' dx fvs (by rw [hl]; exact e.cut) (s.heap.cut e.le hu.2) a fun f d hf => ?_
        obtain ⟨v, h1, h2⟩ := b f d hf
        refine ⟨v, h1, ?_⟩
        rw [hl]
        refine Rep.cut e.le ?_ h2
        have mem : ∀ {l : Flds}, l.lookup f = some d → D.undAll M.length (l.map (·.2)) = true → D.und M.length d = true := by
          intro l
          induction l with
          | nil => intro z; cases z
          | cons p l ih =>
            intro z u
            obtain ⟨g, y⟩ := p
            have u : (D.und M.length y && D.undAll M.length (l.map (·.2))) = true := u
            rw [Bool.and_eq_true] at u
            have z : (match f == g with
              | true => some y
              | false => l.lookup f) = some d := z
            split at z
            · cases z
              exact u.1
            · exact ih z u.2
        exact mem hf hu.1
      · rw [if_neg hu] at q
        exact q.elim
  | bk ρ M' => exact q.elim
  | ct ρ M' => exact q.elim
  | stuck => exact q.elim
theorem Reps.get' : ∀ {ds : List D} {vs : List V} {i : Nat} {d : D}, Reps K H β N ds vs → ds[i]? = some d → ∃ v, vs[i]? = some v ∧ Rep K H β N d v
  | [], _, _, _, _, h => by simp at h
  | d :: ds, vs, 0, e, r, h => by
    obtain ⟨v, w, rfl, r1, _⟩ := r.consI
    cases h
    exact ⟨v, rfl, r1⟩
  | d :: ds, vs, i + 1, e, r, h => by
    obtain ⟨v, w, rfl, _, r2⟩ := r.consI
    obtain ⟨u, h1, h2⟩ := Reps.get' (i := i) r2 (by simpa using h)
    exact ⟨u, by simpa using h1, h2⟩
theorem start_env {ds : List D} {vs : List V} {NN : List Str} {ns : Nat} (r : Reps K H β N ds vs) (h : NN.length = ns) (hl : ds.length ≤ ns) : EnvR K H β N (startE ns ds) (L2.start NN vs) := by
  have hv : vs.length = ds.length := r.length
  refine ⟨?_, fun i d e => ?_⟩
  · unfold startE L2.start
    rw [List.length_append, List.length_append, List.length_map, List.length_map, List.length_replicate, List.length_replicate, h, hv]
  · unfold startE at e
    by_cases hi : i < ds.length
    · rw [List.getElem?_append_left (by rw [List.length_map]; exact hi), List.getElem?_map] at e
      cases f : ds[i]? with
      | none => rw [f] at e; cases e
      | some d' =>
        rw [f] at e
        cases e
        obtain ⟨v, h1, h2⟩ := Reps.get' r f
        exact ⟨v, start_get h1, h2⟩
    · rw [List.getElem?_append_right (by rw [List.length_map]; omega)] at e
      rw [List.getElem?_replicate] at e
      split at e <;> cases e
end
theorem eq_f {pg : Pg} {d f n : Nat} {t : Fn} (hf : pg.fns[f]? = some t) (ds : List D) (M : MH) : (sys pg (n + 1)).f (d + 1) f ds M = if ds.length = t.np then endF t.fz M.length ((sys pg n).ss ⟨d, none⟩ t.body (startE t.ns ds) M) else .stuck := by
  show stepF pg (sys pg n) (d + 1) f ds M = _
  unfold stepF
  rw [hf]
/-- a def's facts with its own record -/
def FnJ (K : PySem.W.Frag) (T : Tb) (fa : Nat → Addr) (f : Nat) (t : Fn) (fd : FuncData) (ps : List Str) : Prop :=
  ∃ x qual st N, Fun K x qual st (fa f) fd ∧ FnScope N ps (defScope st) ∧ Binds K fd ps [] ∧ ps.length = t.np ∧ N.length = t.ns ∧ t.np ≤ t.ns ∧ AllI (fun _ q => q.1 = f → KBq K fd ps q.2.1 q.2.2) 0 T.kbs ∧ ∃ k, chkSs T k ⟨N, defScope st, defScope st, none, true⟩ (defBody st) t.body = true
theorem fn_one {P : Program} {w : World} {K : PySem.W.Frag} {mg : Str → Option Value} {base : Heap} {pg : Pg} {T : Tb} {xa fa : Nat → Addr} (tab : Tab w K mg pg T xa fa) {n d : Nat} (ih : ∀ m, m < n → ∀ d f t, pg.fns[f]? = some t → FnG P w K mg base T xa fa d f t ((sys pg m).f d f)) {f : Nat} {t : Fn} (hf : pg.fns[f]? = some t) {fd : FuncData} {ps : List Str} (J : FnJ K T fa f t fd ps) :
    FnOk P w K mg base (L2.CX P w) (d + 2) (fa f) fd ps (spF K xa t.np ((sys pg n).f d f)) ∧ ∀ ds M, (sys pg n).f d f ds M ≠ .stuck → ds.length = t.np := by
  obtain ⟨x, qual, st, N, F1, S, hb, h1, h2, h3, hkb, k, hc⟩ := J
  have stk : ∀ (F : List D → MH → Res D), (∀ ds M, F ds M = .stuck) → FnOk P w K mg base (L2.CX P w) (d + 2) (fa f) fd ps (spF K xa t.np F) ∧ ∀ ds M, F ds M ≠ .stuck → ds.length = t.np := fun F hF => by
    refine ⟨⟨fun vs H Q E q => q.1.trans h1.symm, fun A outer s H args us vs Q E hr e0 hb hv ⟨_, β, M, ds, hp, r, q⟩ => ?_⟩, fun ds M z => absurd (hF ds M) z⟩
    rw [hF] at q
    exact q.elim
  cases n with
  | zero => exact stk _ fun _ _ => rfl
  | succ n =>
    cases d with
    | zero => exact stk _ fun _ _ => rfl
    | succ d =>
      refine ⟨F1.okX S (fun vs H Q E q => q.1.trans h1.symm) fun cdv A outer s H vs Q E hr ⟨hl, β, M, ds, hp, r, q⟩ => ?_, fun ds M z => ?_⟩
      · refine ⟨_, (snd_n n).ss (W := fun cls d _ H => E cls d H) (hx := none) (c := ⟨d, none⟩) (L := ⟨N, defScope st, defScope st, none, true⟩) {
            hN := rfl
            hsc := rfl
            nd := S.nd
            kd := S.kind
            un := by
              have z := hr.un
              show (A.deeper (envOfC qual (defScope st) s.heap.objs.size (fa f) cdv)).units + 65 < cLine
              omega
            fnl := fun x h => ⟨h, .inl rfl⟩
            tk := L2.takes_of rfl rfl rfl rfl
            tab := tab
            cool := fun _ => ⟨rfl, rfl, rfl, hr⟩
            fns := fun m hm d' _ f t hf => ih m (Nat.lt_succ_of_le hm) d' f t hf
            rq := by
              have z1 := hr.dp
              have z2 := hr.un
              constructor
              · show (A.deeper (envOfC qual (defScope st) s.heap.objs.size (fa f) cdv)).depth + 3 * d + 8 < recursionLimit
                omega
              · show (A.deeper (envOfC qual (defScope st) s.heap.objs.size (fa f) cdv)).units + 16 * d + 100 < cLine
                omega
            hotF := fun i z => by cases z
            dfF := fun _ => ⟨L2.passes_of rfl, rfl, rfl, rfl⟩ } hc, ?_⟩
        rw [eq_f hf] at q
        have hd : ds.length = t.np := by rw [← r.length]; exact hl
        rw [if_pos hd] at q
        exact ⟨β, startE t.ns ds, M, ⟨start_env r h2 (by omega), hp, trivial⟩, end_read hp q⟩
      · rw [eq_f hf] at z
        by_cases hd : ds.length = t.np
        · exact hd
        · rw [if_neg hd] at z
          exact absurd rfl z
theorem fn_ok {P : Program} {w : World} {K : PySem.W.Frag} {mg : Str → Option Value} {base : Heap} {pg : Pg} {T : Tb} {xa fa : Nat → Addr} (tab : Tab w K mg pg T xa fa) (I : ∀ f t, pg.fns[f]? = some t → ∃ fd ps, FnJ K T fa f t fd ps) :
    ∀ n d f t, pg.fns[f]? = some t → FnG P w K mg base T xa fa d f t ((sys pg n).f d f) := by
  intro n
  induction n using Nat.strongRecOn with
  | ind n ih =>
    intro d f t hf
    obtain ⟨fd, ps, J⟩ := I f t hf
    obtain ⟨h1, h2⟩ := fn_one (P := P) (w := w) (base := base) (n := n) (d := d) tab ih hf J
    obtain ⟨_, _, _, _, _, _, hb, _, _, _, hkb, _⟩ := J
    exact ⟨fd, ps, h1, hb, fun q hq => AllI.mem (P := fun q => q.1 = f → KBq K fd ps q.2.1 q.2.2) hkb hq, h2⟩
end LX

set_option Elab.async false
set_option linter.all false
set_option maxRecDepth 100000
set_option maxHeartbeats 2000000
/-! LxLim: the steps without a bound. -/
namespace LX
open PySem L2 PyProof.Rows
/-- less told, or the same -/
def LeR {α : Type} (a b : Res α) : Prop := a = .stuck ∨ a = b
def LeS (a b : SRes) : Prop := a = .stuck ∨ a = b
theorem LeR.refl {α : Type} (a : Res α) : LeR a a := .inr rfl
theorem LeS.refl (a : SRes) : LeS a a := .inr rfl
theorem LeR.bot {α : Type} (a : Res α) : LeR .stuck a := .inl rfl
theorem LeS.bot (a : SRes) : LeS .stuck a := .inl rfl
theorem LeR.bind {α γ : Type} {a b : Res α} {f g : α → MH → Res γ} (h : LeR a b) (k : ∀ x M, LeR (f x M) (g x M)) : LeR (a.bind f) (b.bind g) := by
  rcases h with rfl | rfl
  · exact .inl rfl
  · cases a with
    | ok x M => exact k x M
    | exn c fs M => exact .refl _
    | stuck => exact .refl _
theorem LeR.sbind {α : Type} {a b : Res α} {ρ : Env} {f g : α → MH → SRes} (h : LeR a b) (k : ∀ x M, LeS (f x M) (g x M)) : LeS (a.sbind ρ f) (b.sbind ρ g) := by
  rcases h with rfl | rfl
  · exact .inl rfl
  · cases a with
    | ok x M => exact k x M
    | exn c fs M => exact .refl _
    | stuck => exact .refl _
theorem LeS.sbind {a b : SRes} {f g : Env → MH → SRes} (h : LeS a b) (k : ∀ x M, LeS (f x M) (g x M)) : LeS (a.sbind f) (b.sbind g) := by
  rcases h with rfl | rfl
  · exact .inl rfl
  · cases a with
    | nx ρ M => exact k ρ M
    | _ => exact .refl _
theorem LeR.tst {a b : Res D} {f g : Bool → MH → Res D} (h : LeR a b) (k : ∀ x M, LeR (f x M) (g x M)) : LeR (tst a f) (tst b g) := LeR.bind h fun x M => LeR.bind (.refl _) k
theorem LeR.noExn {α : Type} {a b : Res α} (h : LeR a b) : LeR (LX.noExn a) (LX.noExn b) := by
  rcases h with rfl | rfl
  · exact .inl rfl
  · exact .refl _
theorem LeR.endF {fz : Bool} {n : Nat} {a b : SRes} (h : LeS a b) : LeR (LX.endF fz n a) (LX.endF fz n b) := by
  rcases h with rfl | rfl
  · exact .inl rfl
  · exact .refl _
theorem LeS.map {f : Env → Env} {a b : SRes} (h : LeS a b) : LeS (a.map f) (b.map f) := by
  rcases h with rfl | rfl
  · exact .inl rfl
  · exact .refl _
theorem LeR.hres {a b : SRes} (h : LeS a b) : LeR (LX.hres a) (LX.hres b) := by
  rcases h with rfl | rfl
  · exact .inl rfl
  · exact .refl _
structure LeY (u v : Sys) : Prop where
  e : ∀ c x ρ M, LeR (u.e c x ρ M) (v.e c x ρ M)
  es : ∀ c x ρ M, LeR (u.es c x ρ M) (v.es c x ρ M)
  s : ∀ c x ρ M, LeS (u.s c x ρ M) (v.s c x ρ M)
  ss : ∀ c x ρ M, LeS (u.ss c x ρ M) (v.ss c x ρ M)
  f : ∀ d f ds M, LeR (u.f d f ds M) (v.f d f ds M)
section
variable {s t : Sys} (h : LeY s t) {P : Pg} {c : Cf}
include h
theorem le_it {it : E} {ρ : Env} {M : MH} : LeR (itE s c it ρ M) (itE t c it ρ M) := by
  unfold itE
  split
  · exact LeR.bind (h.e ..) fun x M => .refl _
  · exact LeR.bind (h.e ..) fun x M => LeR.bind (h.e ..) fun y M => .refl _
  · exact LeR.bind (h.e ..) fun x M => LeR.bind (h.e ..) fun y M => LeR.bind (h.e ..) fun z M => .refl _
  · exact LeR.bind (h.e ..) fun x M => LeR.bind (h.e ..) fun y M => .refl _
  · exact LeR.bind (h.e ..) fun x M => .refl _
theorem le_tests {o : Option E} {ρ : Env} {M : MH} : LeR (tests s c o ρ M) (tests t c o ρ M) := by
  cases o with
  | none => exact .refl _
  | some e => exact LeR.bind (h.e ..) fun x M => .refl _
theorem le_opt {o : Option E} {ρ : Env} {M : MH} : LeR (optE s c o ρ M) (optE t c o ρ M) := by
  cases o with
  | none => exact .refl _
  | some e => exact LeR.bind (h.e ..) fun x M => .refl _
theorem le_lc {g : G} {all : List D} {k : Option Nat} {o : Option E} {e : E} {ρ : Env} : ∀ {l acc : List D} {M : MH}, LeR (lcL s c g all k o e ρ l acc M) (lcL t c g all k o e ρ l acc M)
  | [], acc, M => .refl _
  | x :: xs, acc, M => by
    unfold lcL
    split
    · refine LeR.bind (.refl _) fun ρ' M => LeR.bind (le_tests h) fun b M => ?_
      cases b with
      | true => exact LeR.bind (h.e ..) fun d M => (by
          try dsimp only
          split
          · exact le_lc
          · exact .refl _)
      | false => exact le_lc
    · exact .refl _
theorem le_for {g : G} {all : List D} {k : Option Nat} {b : List S} : ∀ {l : List D} {ρ : Env} {M : MH}, LeS (forL s c g all k b l ρ M) (forL t c g all k b l ρ M)
  | [], ρ, M => .refl _
  | x :: xs, ρ, M => by
    unfold forL
    split
    · cases bindG g x ρ with
      | none => exact .refl _
      | some ρ' =>
        dsimp only
        rcases h.ss c b ρ' M with e | e
        · rw [e]
          exact .bot _
        · rw [e]
          cases t.ss c b ρ' M with
          | nx ρ M => exact le_for
          | ct ρ M => exact le_for
          | _ => exact .refl _
    · exact .refl _
theorem le_step : LeY (step P s) (step P t) where
  e := fun c x ρ M => by
    show LeR (stepE P s c x ρ M) (stepE P t c x ρ M)
    cases x with
    | tup es => exact LeR.bind (h.es ..) fun _ _ => .refl _
    | lst m es => exact LeR.bind (h.es ..) fun _ _ => .refl _
    | bin m o a b => exact LeR.bind (h.e ..) fun _ _ => LeR.bind (h.e ..) fun _ _ => .refl _
    | neg a => exact LeR.bind (h.e ..) fun _ _ => .refl _
    | cmp o a b => exact LeR.bind (h.e ..) fun _ _ => LeR.bind (h.e ..) fun _ _ => .refl _
    | chain o p a b e =>
      exact LeR.bind (h.e ..) fun _ _ => LeR.bind (h.e ..) fun _ _ => LeR.bind (.refl _) fun k _ => (by
        cases k with
        | true => exact LeR.bind (h.e ..) fun _ _ => .refl _
        | false => exact .refl _)
    | and a b =>
      exact LeR.tst (h.e ..) fun k _ => (by
        cases k with
        | true => exact LeR.tst (h.e ..) fun _ _ => .refl _
        | false => exact .refl _)
    | or a b =>
      exact LeR.tst (h.e ..) fun k _ => (by
        cases k with
        | true => exact .refl _
        | false => exact LeR.tst (h.e ..) fun _ _ => .refl _)
    | not a => exact LeR.tst (h.e ..) fun _ _ => .refl _
    | ite b a e =>
      exact LeR.tst (h.e ..) fun k _ => (by
        cases k with
        | true => exact h.e ..
        | false => exact h.e ..)
    | truth a => exact LeR.bind (h.e ..) fun _ _ => .refl _
    | call f es => exact LeR.bind (h.es ..) fun _ _ => h.f ..
    | fn m b es => exact LeR.bind (h.es ..) fun _ _ => .refl _
    | meth u o es =>
      exact LeR.bind (h.e ..) fun x M => (by
        try dsimp only
        split
        · exact LeR.bind (h.es ..) fun _ _ => .refl _
        · exact .refl _)
    | ix a i => exact LeR.bind (h.e ..) fun _ _ => LeR.bind (h.e ..) fun _ _ => .refl _
    | cut m a lo hi => exact LeR.bind (h.e ..) fun _ _ => LeR.bind (le_opt h) fun _ _ => LeR.bind (le_opt h) fun _ _ => .refl _
    | rev m a => exact LeR.bind (h.e ..) fun _ _ => .refl _
    | stp a lo => exact LeR.bind (h.e ..) fun _ _ => LeR.bind (le_opt h) fun _ _ => .refl _
    | lrng m a => exact LeR.bind (h.e ..) fun _ _ => .refl _
    | lower a => exact LeR.bind (h.e ..) fun _ _ => .refl _
    | lset a => exact LeR.bind (h.e ..) fun _ _ => .refl _
    | srts a => exact LeR.bind (h.e ..) fun _ _ => .refl _
    | callk f n pm es =>
      exact LeR.bind (h.es ..) fun ds M => (by
        try dsimp only
        split
        · exact h.f ..
        · exact .refl _)
    | hcall q =>
      obtain ⟨d, cx⟩ := c
      cases d with
      | zero => exact .refl _
      | succ d =>
        cases cx with
        | none => exact .refl _
        | some y =>
          cases hq : P.qns[q]? with
          | none =>
            have z : ∀ s : Sys, stepE P s ⟨d + 1, some y⟩ (.hcall q) ρ M = .stuck := fun s => by simp only [stepE, hq]
            rw [z, z]
            exact .refl _
          | some w =>
            have z : ∀ s : Sys, stepE P s ⟨d + 1, some y⟩ (.hcall q) ρ M = hres (s.ss ⟨d, some y⟩ w.2 (List.replicate w.1 none) M) := fun s => by simp only [stepE, hq]
            rw [z, z]
            exact LeR.hres (h.ss ..)
    | lc m own g it o e => exact LeR.bind (le_it h) fun _ _ => LeR.bind (LeR.noExn (le_lc h)) fun _ _ => .refl _
    | isi ks a => exact LeR.bind (h.e ..) fun _ _ => .refl _
    | call0 f => exact LeR.noExn (h.f ..)
    | dix kvs a => exact LeR.bind (h.e ..) fun _ _ => .refl _
    | cget a b z =>
      exact LeR.bind (h.e ..) fun x M => (by
        try dsimp only
        split
        · exact LeR.bind (h.e ..) fun _ _ => LeR.bind (h.e ..) fun _ _ => .refl _
        · exact .refl _)
    | tget kvs a b =>
      exact LeR.bind (h.e ..) fun x M => (by
        try dsimp only
        split
        · exact LeR.bind (h.e ..) fun _ _ => .refl _
        · exact .refl _)
    | sm m k a b =>
      exact LeR.bind (h.e ..) fun x M => (by
        try dsimp only
        split
        · exact LeR.bind (h.e ..) fun _ _ => .refl _
        · exact .refl _)
    | _ => exact .refl _
  es := fun c x ρ M => by
    show LeR (stepEs s c x ρ M) (stepEs t c x ρ M)
    cases x with
    | nil => exact .refl _
    | cons e es => exact LeR.bind (h.e ..) fun _ _ => LeR.bind (h.es ..) fun _ _ => .refl _
  s := fun c x ρ M => by
    show LeS (stepS P s c x ρ M) (stepS P t c x ρ M)
    cases x with
    | expr e => exact LeR.sbind (h.e ..) fun _ _ => .refl _
    | ret e => exact LeR.sbind (h.e ..) fun _ _ => .refl _
    | set i e => exact LeR.sbind (h.e ..) fun _ _ => .refl _
    | unp is e => exact LeR.sbind (h.e ..) fun _ _ => .refl _
    | unl is e => exact LeR.sbind (h.e ..) fun _ _ => .refl _
    | par i j a b => exact LeR.sbind (h.e ..) fun _ _ => LeR.sbind (h.e ..) fun _ _ => .refl _
    | par3 i j k a b e => exact LeR.sbind (h.e ..) fun _ _ => LeR.sbind (h.e ..) fun _ _ => LeR.sbind (h.e ..) fun _ _ => .refl _
    | put o i e => exact LeR.sbind (h.e ..) fun _ _ => LeR.sbind (h.e ..) fun _ _ => LeR.sbind (h.e ..) fun _ _ => .refl _
    | aug i o e =>
      show LeS (match ρ[i]? with
        | some (some x) => _
        | _ => _) (match ρ[i]? with
        | some (some x) => _
        | _ => _)
      split
      · exact LeR.sbind (h.e ..) fun _ _ => .refl _
      · exact .refl _
    | ite b a e =>
      exact LeR.sbind (h.e ..) fun d _ => (by
        try dsimp only
        split
        · exact h.ss ..
        · exact h.ss ..
        · exact .refl _)
    | wh o b =>
      exact LeR.sbind (h.e ..) fun d M => (by
        try dsimp only
        split
        · rcases h.ss c b ρ M with e | e
          · rw [e]
            exact .bot _
          · rw [e]
            cases t.ss c b ρ M with
            | nx ρ M => exact h.s ..
            | ct ρ M => exact h.s ..
            | _ => exact .refl _
        · exact .refl _
        · exact .refl _)
    | «for» g it b => exact LeR.sbind (le_it h) fun _ _ => le_for h
    | raise k es => exact LeR.sbind (h.es ..) fun _ _ => .refl _
    | «try» b hs =>
      show LeS (match s.ss c b ρ M with
        | .exn k fs ρ M => _
        | r => r) (match t.ss c b ρ M with
        | .exn k fs ρ M => _
        | r => r)
      rcases h.ss c b ρ M with e | e
      · rw [e]
        exact .bot _
      · rw [e]
        cases t.ss c b ρ M with
        | exn k fs ρ M =>
          dsimp only
          split
          · cases clause P k hs with
            | none => exact .refl _
            | some p =>
              obtain ⟨n, b⟩ := p
              dsimp only
              split
              · exact LeS.map (h.ss ..)
              · exact .refl _
          · exact .refl _
        | _ => exact .refl _
    | _ => exact .refl _
  ss := fun c x ρ M => by
    show LeS (stepSs s c x ρ M) (stepSs t c x ρ M)
    cases x with
    | nil => exact .refl _
    | cons e es => exact LeS.sbind (h.s ..) fun _ _ => h.ss ..
  f := fun d f ds M => by
    show LeR (stepF P s d f ds M) (stepF P t d f ds M)
    unfold stepF
    split
    · split
      · exact LeR.endF (h.ss ..)
      · exact .refl _
    · exact .refl _
end
theorem le_bot (t : Sys) : LeY bot t := ⟨fun _ _ _ _ => .inl rfl, fun _ _ _ _ => .inl rfl, fun _ _ _ _ => .inl rfl, fun _ _ _ _ => .inl rfl, fun _ _ _ _ => .inl rfl⟩
theorem le_refl (t : Sys) : LeY t t := ⟨fun _ _ _ _ => .inr rfl, fun _ _ _ _ => .inr rfl, fun _ _ _ _ => .inr rfl, fun _ _ _ _ => .inr rfl, fun _ _ _ _ => .inr rfl⟩
theorem le_sys (P : Pg) : ∀ {m n : Nat}, m ≤ n → LeY (sys P m) (sys P n)
  | 0, n, _ => le_bot _
  | m + 1, 0, h => absurd h (Nat.not_succ_le_zero m)
  | m + 1, n + 1, h => le_step (le_sys P (Nat.le_of_succ_le_succ h))
/-! ### the limit -/
open Classical in
noncomputable def upR {α : Type} (F : Nat → Res α) : Res α := if h : ∃ n, F n ≠ .stuck then F (Classical.choose h) else .stuck
open Classical in
noncomputable def upS (F : Nat → SRes) : SRes := if h : ∃ n, F n ≠ .stuck then F (Classical.choose h) else .stuck
noncomputable def run (P : Pg) : Sys where
  e := fun c x ρ M => upR fun n => (sys P n).e c x ρ M
  es := fun c x ρ M => upR fun n => (sys P n).es c x ρ M
  s := fun c x ρ M => upS fun n => (sys P n).s c x ρ M
  ss := fun c x ρ M => upS fun n => (sys P n).ss c x ρ M
  f := fun d f ds M => upR fun n => (sys P n).f d f ds M
/-- from some turn on it stays -/
def EvR {α : Type} (F : Nat → Res α) (r : Res α) : Prop := ∃ n, ∀ m, n ≤ m → F m = r
def EvS (F : Nat → SRes) (r : SRes) : Prop := ∃ n, ∀ m, n ≤ m → F m = r
theorem up_ev {α : Type} {F : Nat → Res α} (h : ∀ m n, m ≤ n → LeR (F m) (F n)) : EvR F (upR F) := by
  unfold upR
  split
  · rename_i q
    refine ⟨Classical.choose q, fun m hm => ?_⟩
    rcases h _ m hm with e | e
    · exact absurd e (Classical.choose_spec q)
    · exact e.symm
  · rename_i q
    exact ⟨0, fun m _ => Classical.byContradiction fun z => q ⟨m, z⟩⟩
theorem up_evS {F : Nat → SRes} (h : ∀ m n, m ≤ n → LeS (F m) (F n)) : EvS F (upS F) := by
  unfold upS
  split
  · rename_i q
    refine ⟨Classical.choose q, fun m hm => ?_⟩
    rcases h _ m hm with e | e
    · exact absurd e (Classical.choose_spec q)
    · exact e.symm
  · rename_i q
    exact ⟨0, fun m _ => Classical.byContradiction fun z => q ⟨m, z⟩⟩
section
variable (P : Pg)
theorem ev_e {c x ρ M} : EvR (fun n => (sys P n).e c x ρ M) ((run P).e c x ρ M) := up_ev fun m n h => (le_sys P h).e ..
theorem ev_es {c x ρ M} : EvR (fun n => (sys P n).es c x ρ M) ((run P).es c x ρ M) := up_ev fun m n h => (le_sys P h).es ..
theorem ev_s {c x ρ M} : EvS (fun n => (sys P n).s c x ρ M) ((run P).s c x ρ M) := up_evS fun m n h => (le_sys P h).s ..
theorem ev_ss {c x ρ M} : EvS (fun n => (sys P n).ss c x ρ M) ((run P).ss c x ρ M) := up_evS fun m n h => (le_sys P h).ss ..
theorem ev_f {d f ds M} : EvR (fun n => (sys P n).f d f ds M) ((run P).f d f ds M) := up_ev fun m n h => (le_sys P h).f ..
end
theorem EvR.const {α : Type} {r : Res α} : EvR (fun _ => r) r := ⟨0, fun _ _ => rfl⟩
theorem EvS.const {r : SRes} : EvS (fun _ => r) r := ⟨0, fun _ _ => rfl⟩
theorem EvR.bind {α γ : Type} {F : Nat → Res α} {r : Res α} {k : Nat → α → MH → Res γ} {k' : α → MH → Res γ} (h : EvR F r) (hk : ∀ x M, EvR (fun n => k n x M) (k' x M)) : EvR (fun n => (F n).bind (k n)) (r.bind k') := by
  obtain ⟨n1, h1⟩ := h
  cases r with
  | ok x M =>
    obtain ⟨n2, h2⟩ := hk x M
    exact ⟨max n1 n2, fun m hm => by dsimp only; rw [h1 m (by omega)]; exact h2 m (by omega)⟩
  | exn c fs M => exact ⟨n1, fun m hm => by dsimp only; rw [h1 m hm]; rfl⟩
  | stuck => exact ⟨n1, fun m hm => by dsimp only; rw [h1 m hm]; rfl⟩
theorem EvR.sbind {α : Type} {F : Nat → Res α} {r : Res α} {ρ : Env} {k : Nat → α → MH → SRes} {k' : α → MH → SRes} (h : EvR F r) (hk : ∀ x M, EvS (fun n => k n x M) (k' x M)) : EvS (fun n => (F n).sbind ρ (k n)) (r.sbind ρ k') := by
  obtain ⟨n1, h1⟩ := h
  cases r with
  | ok x M =>
    obtain ⟨n2, h2⟩ := hk x M
    exact ⟨max n1 n2, fun m hm => by dsimp only; rw [h1 m (by omega)]; exact h2 m (by omega)⟩
  | exn c fs M => exact ⟨n1, fun m hm => by dsimp only; rw [h1 m hm]; rfl⟩
  | stuck => exact ⟨n1, fun m hm => by dsimp only; rw [h1 m hm]; rfl⟩
theorem EvS.sbind {F : Nat → SRes} {r : SRes} {k : Nat → Env → MH → SRes} {k' : Env → MH → SRes} (h : EvS F r) (hk : ∀ x M, EvS (fun n => k n x M) (k' x M)) : EvS (fun n => (F n).sbind (k n)) (r.sbind k') := by
  obtain ⟨n1, h1⟩ := h
  cases r with
  | nx x M =>
    obtain ⟨n2, h2⟩ := hk x M
    exact ⟨max n1 n2, fun m hm => by dsimp only; rw [h1 m (by omega)]; exact h2 m (by omega)⟩
  | _ => exact ⟨n1, fun m hm => by dsimp only; rw [h1 m hm]; rfl⟩
theorem EvR.tst {F : Nat → Res D} {r : Res D} {k : Nat → Bool → MH → Res D} {k' : Bool → MH → Res D} (h : EvR F r) (hk : ∀ x M, EvR (fun n => k n x M) (k' x M)) : EvR (fun n => LX.tst (F n) (k n)) (LX.tst r k') :=
  EvR.bind (k := fun n d M => (ofO (asBl d) M).bind (k n)) h fun x M => EvR.bind .const hk
theorem EvR.app {α γ : Type} {F : Nat → Res α} {r : Res α} (g : Res α → Res γ) (h : EvR F r) : EvR (fun n => g (F n)) (g r) := by
  obtain ⟨n1, h1⟩ := h
  exact ⟨n1, fun m hm => by dsimp only; rw [h1 m hm]⟩
theorem EvS.app {γ : Type} {F : Nat → SRes} {r : SRes} (g : SRes → Res γ) (h : EvS F r) : EvR (fun n => g (F n)) (g r) := by
  obtain ⟨n1, h1⟩ := h
  exact ⟨n1, fun m hm => by dsimp only; rw [h1 m hm]⟩
theorem EvS.appS {F : Nat → SRes} {r : SRes} (g : SRes → SRes) (h : EvS F r) : EvS (fun n => g (F n)) (g r) := by
  obtain ⟨n1, h1⟩ := h
  exact ⟨n1, fun m hm => by dsimp only; rw [h1 m hm]⟩
/-- a result, then what hangs on it -/
theorem EvS.on {F : Nat → SRes} {r : SRes} {g : Nat → SRes → SRes} {g' : SRes → SRes} (h : EvS F r) (hg : EvS (fun n => g n r) (g' r)) : EvS (fun n => g n (F n)) (g' r) := by
  obtain ⟨n1, h1⟩ := h
  obtain ⟨n2, h2⟩ := hg
  exact ⟨max n1 n2, fun m hm => by dsimp only; rw [h1 m (by omega)]; exact h2 m (by omega)⟩
section
variable {P : Pg} {c : Cf}
theorem ev_it {it : E} {ρ : Env} {M : MH} : EvR (fun n => itE (sys P n) c it ρ M) (itE (run P) c it ρ M) := by
  unfold itE
  split
  · exact EvR.bind (ev_e P) fun x M => .const
  · exact EvR.bind (ev_e P) fun x M => EvR.bind (ev_e P) fun y M => .const
  · exact EvR.bind (ev_e P) fun x M => EvR.bind (ev_e P) fun y M => EvR.bind (ev_e P) fun z M => .const
  · exact EvR.bind (ev_e P) fun x M => EvR.bind (ev_e P) fun y M => .const
  · exact EvR.bind (ev_e P) fun x M => .const
theorem ev_tests {o : Option E} {ρ : Env} {M : MH} : EvR (fun n => tests (sys P n) c o ρ M) (tests (run P) c o ρ M) := by
  cases o with
  | none => exact .const
  | some e => exact EvR.bind (ev_e P) fun x M => .const
theorem ev_opt {o : Option E} {ρ : Env} {M : MH} : EvR (fun n => optE (sys P n) c o ρ M) (optE (run P) c o ρ M) := by
  cases o with
  | none => exact .const
  | some e => exact EvR.bind (ev_e P) fun x M => .const
theorem ev_lc {g : G} {all : List D} {k : Option Nat} {o : Option E} {e : E} {ρ : Env} : ∀ {l acc : List D} {M : MH}, EvR (fun n => lcL (sys P n) c g all k o e ρ l acc M) (lcL (run P) c g all k o e ρ l acc M)
  | [], acc, M => .const
  | x :: xs, acc, M => by
    unfold lcL
    split
    · refine EvR.bind .const fun ρ' M => EvR.bind ev_tests fun b M => ?_
      cases b with
      | true =>
        refine EvR.bind (ev_e P) fun d M => ?_
        by_cases h : acc.length < lim
        · simp only [h, if_true]
          exact ev_lc
        · simp only [h, if_false]
          exact .const
      | false => exact ev_lc
    · exact .const
theorem ev_for {g : G} {all : List D} {k : Option Nat} {b : List S} : ∀ {l : List D} {ρ : Env} {M : MH}, EvS (fun n => forL (sys P n) c g all k b l ρ M) (forL (run P) c g all k b l ρ M)
  | [], ρ, M => .const
  | x :: xs, ρ, M => by
    unfold forL
    split
    · cases bindG g x ρ with
      | none => exact .const
      | some ρ' =>
        refine EvS.on (g := fun n r => match r with
          | .nx ρ M => forL (sys P n) c g all k b xs ρ M
          | .ct ρ M => forL (sys P n) c g all k b xs ρ M
          | .bk ρ M => .nx ρ M
          | r => r) (g' := fun r => match r with
          | .nx ρ M => forL (run P) c g all k b xs ρ M
          | .ct ρ M => forL (run P) c g all k b xs ρ M
          | .bk ρ M => .nx ρ M
          | r => r) (ev_ss P (c := c) (x := b) (ρ := ρ') (M := M)) ?_
        cases (run P).ss c b ρ' M with
        | nx ρ M => exact ev_for
        | ct ρ M => exact ev_for
        | _ => exact .const
    · exact .const
theorem ev_stepE {x : E} {ρ : Env} {M : MH} : EvR (fun n => stepE P (sys P n) c x ρ M) (stepE P (run P) c x ρ M) := by
  cases x with
  | tup es => exact EvR.bind (ev_es P) fun _ _ => .const
  | lst m es => exact EvR.bind (ev_es P) fun _ _ => .const
  | bin m o a b => exact EvR.bind (ev_e P) fun _ _ => EvR.bind (ev_e P) fun _ _ => .const
  | neg a => exact EvR.bind (ev_e P) fun _ _ => .const
  | cmp o a b => exact EvR.bind (ev_e P) fun _ _ => EvR.bind (ev_e P) fun _ _ => .const
  | chain o p a b e =>
    exact EvR.bind (ev_e P) fun _ _ => EvR.bind (ev_e P) fun _ _ => EvR.bind .const fun k _ => (by
      cases k with
      | true => exact EvR.bind (ev_e P) fun _ _ => .const
      | false => exact .const)
  | and a b =>
    exact EvR.tst (ev_e P) fun k _ => (by
      cases k with
      | true => exact EvR.tst (ev_e P) fun _ _ => .const
      | false => exact .const)
  | or a b =>
    exact EvR.tst (ev_e P) fun k _ => (by
      cases k with
      | true => exact .const
      | false => exact EvR.tst (ev_e P) fun _ _ => .const)
  | not a => exact EvR.tst (ev_e P) fun _ _ => .const
  | ite b a e =>
    exact EvR.tst (ev_e P) fun k _ => (by
      cases k with
      | true => exact ev_e P
      | false => exact ev_e P)
  | truth a => exact EvR.bind (ev_e P) fun _ _ => .const
  | call f es => exact EvR.bind (ev_es P) fun _ _ => ev_f P
  | fn m b es => exact EvR.bind (ev_es P) fun _ _ => .const
  | meth u o es =>
    refine EvR.bind (ev_e P) fun x M => ?_
    by_cases h : recvOk M u x = true
    · simp only [h, if_true]
      exact EvR.bind (ev_es P) fun _ _ => .const
    · simp only [h, if_false]
      exact .const
  | ix a i => exact EvR.bind (ev_e P) fun _ _ => EvR.bind (ev_e P) fun _ _ => .const
  | cut m a lo hi => exact EvR.bind (ev_e P) fun _ _ => EvR.bind ev_opt fun _ _ => EvR.bind ev_opt fun _ _ => .const
  | rev m a => exact EvR.bind (ev_e P) fun _ _ => .const
  | stp a lo => exact EvR.bind (ev_e P) fun _ _ => EvR.bind ev_opt fun _ _ => .const
  | lrng m a => exact EvR.bind (ev_e P) fun _ _ => .const
  | lower a => exact EvR.bind (ev_e P) fun _ _ => .const
  | lset a => exact EvR.bind (ev_e P) fun _ _ => .const
  | srts a => exact EvR.bind (ev_e P) fun _ _ => .const
  | callk f n pm es =>
    refine EvR.bind (ev_es P) fun ds M => ?_
    by_cases h : ds.length = n
    · simp only [h, if_true]
      exact ev_f P
    · simp only [h, if_false]
      exact .const
  | hcall q =>
    obtain ⟨d, cx⟩ := c
    cases d with
    | zero => exact .const
    | succ d =>
      cases cx with
      | none => exact .const
      | some y =>
        cases hq : P.qns[q]? with
        | none =>
          have z : ∀ s : Sys, stepE P s ⟨d + 1, some y⟩ (.hcall q) ρ M = .stuck := fun s => by simp only [stepE, hq]
          simp only [z]
          exact .const
        | some w =>
          have z : ∀ s : Sys, stepE P s ⟨d + 1, some y⟩ (.hcall q) ρ M = hres (s.ss ⟨d, some y⟩ w.2 (List.replicate w.1 none) M) := fun s => by simp only [stepE, hq]
          simp only [z]
          exact EvS.app LX.hres (ev_ss P)
  | lc m own g it o e => exact EvR.bind ev_it fun _ _ => EvR.bind (EvR.app LX.noExn ev_lc) fun _ _ => .const
  | isi ks a => exact EvR.bind (ev_e P) fun _ _ => .const
  | call0 f => exact EvR.app LX.noExn (ev_f P)
  | dix kvs a => exact EvR.bind (ev_e P) fun _ _ => .const
  | cget a b z =>
    refine EvR.bind (ev_e P) fun x M => ?_
    by_cases h : isCd x = true
    · simp only [h, if_true]
      exact EvR.bind (ev_e P) fun _ _ => EvR.bind (ev_e P) fun _ _ => .const
    · simp only [h, if_false]
      exact .const
  | tget kvs a b =>
    refine EvR.bind (ev_e P) fun x M => ?_
    by_cases h : isStrD x = true
    · simp only [h, if_true]
      exact EvR.bind (ev_e P) fun _ _ => .const
    · simp only [h, if_false]
      exact .const
  | sm m k a b =>
    refine EvR.bind (ev_e P) fun x M => ?_
    by_cases h : isStrD x = true
    · simp only [h, if_true]
      exact EvR.bind (ev_e P) fun _ _ => .const
    · simp only [h, if_false]
      exact .const
  | _ => exact .const
theorem ev_stepEs {x : List E} {ρ : Env} {M : MH} : EvR (fun n => stepEs (sys P n) c x ρ M) (stepEs (run P) c x ρ M) := by
  cases x with
  | nil => exact .const
  | cons e es => exact EvR.bind (ev_e P) fun _ _ => EvR.bind (ev_es P) fun _ _ => .const
theorem ev_stepSs {x : List S} {ρ : Env} {M : MH} : EvS (fun n => stepSs (sys P n) c x ρ M) (stepSs (run P) c x ρ M) := by
  cases x with
  | nil => exact .const
  | cons e es => exact EvS.sbind (ev_s P) fun _ _ => ev_ss P
theorem ev_stepF {d f : Nat} {ds : List D} {M : MH} : EvR (fun n => stepF P (sys P n) d f ds M) (stepF P (run P) d f ds M) := by
  unfold stepF
  split
  · split
    · exact EvS.app (LX.endF _ _) (ev_ss P)
    · exact .const
  · exact .const
theorem ev_stepS {x : S} {ρ : Env} {M : MH} : EvS (fun n => stepS P (sys P n) c x ρ M) (stepS P (run P) c x ρ M) := by
  cases x with
  | expr e => exact EvR.sbind (ev_e P) fun _ _ => .const
  | ret e => exact EvR.sbind (ev_e P) fun _ _ => .const
  | set i e => exact EvR.sbind (ev_e P) fun _ _ => .const
  | unp is e => exact EvR.sbind (ev_e P) fun _ _ => .const
  | unl is e => exact EvR.sbind (ev_e P) fun _ _ => .const
  | par i j a b => exact EvR.sbind (ev_e P) fun _ _ => EvR.sbind (ev_e P) fun _ _ => .const
  | par3 i j k a b e => exact EvR.sbind (ev_e P) fun _ _ => EvR.sbind (ev_e P) fun _ _ => EvR.sbind (ev_e P) fun _ _ => .const
  | put o i e => exact EvR.sbind (ev_e P) fun _ _ => EvR.sbind (ev_e P) fun _ _ => EvR.sbind (ev_e P) fun _ _ => .const
  | aug i o e =>
    have z : ∀ s : Sys, stepS P s c (.aug i o e) ρ M = (match ρ[i]? with
      | some (some x) => (s.e c e ρ M).sbind ρ fun y M => (augD M o x y).sbind ρ fun d M => .nx (ρ.set i (some d)) M
      | _ => .stuck) := fun _ => rfl
    simp only [z]
    split
    · exact EvR.sbind (ev_e P) fun _ _ => .const
    · exact .const
  | ite b a e =>
    refine EvR.sbind (ev_e P) fun d _ => ?_
    cases asBl d with
    | none => exact .const
    | some b =>
      cases b with
      | true => exact ev_ss P
      | false => exact ev_ss P
  | wh o b =>
    refine EvR.sbind (ev_e P) fun d M => ?_
    cases asBl d with
    | none => exact .const
    | some q =>
      cases q with
      | false => exact .const
      | true =>
        refine EvS.on (g := fun n r => match r with
          | .nx ρ M => (sys P n).s c (.wh o b) ρ M
          | .ct ρ M => (sys P n).s c (.wh o b) ρ M
          | .bk ρ M => .nx ρ M
          | r => r) (g' := fun r => match r with
          | .nx ρ M => (run P).s c (.wh o b) ρ M
          | .ct ρ M => (run P).s c (.wh o b) ρ M
          | .bk ρ M => .nx ρ M
          | r => r) (ev_ss P (c := c) (x := b) (ρ := ρ) (M := M)) ?_
        cases (run P).ss c b ρ M with
        | nx ρ M => exact ev_s P
        | ct ρ M => exact ev_s P
        | _ => exact .const
  | «for» g it b => exact EvR.sbind ev_it fun _ _ => ev_for
  | raise k es => exact EvR.sbind (ev_es P) fun _ _ => .const
  | «try» b hs =>
    refine EvS.on (g := fun n r => match r with
      | .exn k fs ρ M => if k < P.live then match clause P k hs with
        | some (q, b) => if slotIn q ρ then ((sys P n).ss { c with x := some (k, fs) } b (gone q ρ) M).map (gone q) else .stuck
        | none => .exn k fs ρ M
        else .stuck
      | r => r) (g' := fun r => match r with
      | .exn k fs ρ M => if k < P.live then match clause P k hs with
        | some (q, b) => if slotIn q ρ then ((run P).ss { c with x := some (k, fs) } b (gone q ρ) M).map (gone q) else .stuck
        | none => .exn k fs ρ M
        else .stuck
      | r => r) (ev_ss P (c := c) (x := b) (ρ := ρ) (M := M)) ?_
    cases (run P).ss c b ρ M with
    | exn k fs ρ M =>
      by_cases h : k < P.live
      · simp only [h, if_true]
        cases clause P k hs with
        | none => exact .const
        | some p =>
          obtain ⟨q, b⟩ := p
          by_cases h2 : slotIn q ρ = true
          · simp only [h2, if_true]
            exact EvS.appS (SRes.map (gone q)) (ev_ss P)
          · simp only [h2, if_false]
            exact .const
      · simp only [h, if_false]
        exact .const
    | _ => exact .const
  | _ => exact .const
theorem EvR.uniq {α : Type} {F G : Nat → Res α} {r r' : Res α} (h : EvR F r) (h' : EvR G r') (q : ∀ n, F (n + 1) = G n) : r = r' := by
  obtain ⟨n1, h1⟩ := h
  obtain ⟨n2, h2⟩ := h'
  rw [← h1 (max n1 n2 + 1) (by omega), q, h2 _ (by omega)]
theorem EvS.uniq {F G : Nat → SRes} {r r' : SRes} (h : EvS F r) (h' : EvS G r') (q : ∀ n, F (n + 1) = G n) : r = r' := by
  obtain ⟨n1, h1⟩ := h
  obtain ⟨n2, h2⟩ := h'
  rw [← h1 (max n1 n2 + 1) (by omega), q, h2 _ (by omega)]
theorem run_e {x : E} {ρ : Env} {M : MH} : (run P).e c x ρ M = stepE P (run P) c x ρ M := EvR.uniq (ev_e P) ev_stepE fun _ => rfl
theorem run_es {x : List E} {ρ : Env} {M : MH} : (run P).es c x ρ M = stepEs (run P) c x ρ M := EvR.uniq (ev_es P) ev_stepEs fun _ => rfl
theorem run_s {x : S} {ρ : Env} {M : MH} : (run P).s c x ρ M = stepS P (run P) c x ρ M := EvS.uniq (ev_s P) ev_stepS fun _ => rfl
theorem run_ss {x : List S} {ρ : Env} {M : MH} : (run P).ss c x ρ M = stepSs (run P) c x ρ M := EvS.uniq (ev_ss P) ev_stepSs fun _ => rfl
theorem run_f {d f : Nat} {ds : List D} {M : MH} : (run P).f d f ds M = stepF P (run P) d f ds M := EvR.uniq (ev_f P) ev_stepF fun _ => rfl
/-- what a bounded run tells -/
theorem run_of {d f n : Nat} {ds : List D} {M : MH} {r : Res D} (h : (sys P n).f d f ds M = r) (hr : r ≠ .stuck) : (run P).f d f ds M = r := by
  obtain ⟨m, hm⟩ := ev_f P (d := d) (f := f) (ds := ds) (M := M)
  have h1 := hm (max m n) (by omega)
  dsimp only at h1
  rcases (le_sys P (Nat.le_max_right m n)).f d f ds M with e | e
  · rw [h] at e
    exact absurd e hr
  · rw [← h1, ← e, h]
end
/-- a def keeps the unbounded promise -/
theorem fn_run {P : Program} {w : World} {K : PySem.W.Frag} {mg : Str → Option Value} {base : Heap} {pg : Pg} {T : Tb} {xa fa : Nat → Addr} (tab : Tab w K mg pg T xa fa) (I : ∀ f t, pg.fns[f]? = some t → ∃ fd ps, FnJ K T fa f t fd ps) {f d : Nat} {t : Fn} (hf : pg.fns[f]? = some t) {fd : FuncData} {ps : List Str} (J : FnJ K T fa f t fd ps) :
    FnOk P w K mg base (L2.CX P w) (d + 2) (fa f) fd ps (spF K xa t.np ((run pg).f d f)) := by
  have all := fun n => (fn_one (P := P) (w := w) (base := base) (n := n) (d := d) tab (fun m _ => fn_ok tab I m) hf J).1
  refine ⟨fun vs H Q E q => ?_, fun A outer s H args us vs Q E hr e0 hb hv ⟨hl, β, M, ds, hp, r, q⟩ => ?_⟩
  · obtain ⟨hl, _⟩ := q
    obtain ⟨_, _, _, _, _, _, _, h1, _⟩ := J
    exact hl.trans h1.symm
  · obtain ⟨n, hn⟩ := ev_f pg (d := d) (f := f) (ds := ds) (M := M)
    refine (all n).run A outer s H args us vs Q E hr e0 hb hv ⟨hl, β, M, ds, hp, r, ?_⟩
    have e := hn n (Nat.le_refl n)
    dsimp only at e
    rw [e]
    exact q
end LX

set_option Elab.async false
set_option linter.all false
set_option maxRecDepth 100000
set_option maxHeartbeats 2000000
/-! LxEnd: the tables out of single facts; the law's promise. -/
namespace LX
open PySem L2 PyProof.Rows
/-- a class that can stand in an except clause -/
def ClsF (K : PySem.W.Frag) (c : Addr) : Prop := PySem.W.isClsIn K c = true ∧ PySem.W.typeIn K (.ref c) = some (.type "type") ∧ PySem.W.subIn K (.ref c) (.type "BaseException") = some true
theorem ClsF.kit {K : PySem.W.Frag} {t : Value} {c : Addr} {b : Bool} (h : ClsF K c) (s : PySem.W.subIn K t (.ref c) = some b) : PySem.W.kitCls K t (.ref c) = some b := by
  have e2 : ((PySem.W.clsIn K c).isSome && PySem.W.typeIn K (.ref c) == some (.type "type")) = true := by
    have h2' : (PySem.W.clsIn K c).isSome = true := h.1
    rw [h2', h.2.1] <;> rfl
  show (if ((PySem.W.clsIn K c).isSome && PySem.W.typeIn K (.ref c) == some (.type "type")) = true then PySem.W.subIn K t (.ref c) else none) = some b
  rw [if_pos e2]
  exact s
theorem ClsF.exm {K : PySem.W.Frag} {t : Value} {c : Addr} {b : Bool} (h : ClsF K c) (s : PySem.W.subIn K t (.ref c) = some b) : PySem.W.exmOne K t (.ref c) = some b := by
  have e1 : (PySem.W.subIn K (.ref c) (.type "BaseException") == some true) = true := by rw [h.2.2] <;> rfl
  show (if (PySem.W.subIn K (.ref c) (.type "BaseException") == some true) = true then PySem.W.kitCls K t (.ref c) else none) = some b
  rw [if_pos e1]
  exact h.kit s
theorem ClsF.one {K : PySem.W.Frag} {d c : Addr} {b : Bool} (h : ClsF K c) (s : PySem.W.subIn K (.ref d) (.ref c) = some b) (sd : PySem.W.subIn K (.ref d) (.ref d) = some true) : PySem.W.kitOne K (.ref d) (.ref c) = some b := by
  unfold PySem.W.kitOne
  by_cases e : (Value.ref d == Value.ref c) = true
  · rw [if_pos e]
    have e := beq_iff_eq.mp e
    rw [← e] at s
    rw [sd] at s
    exact s
  · rw [if_neg e]
    exact h.kit s
structure LiveF (K : PySem.W.Frag) (pg : Pg) (T : Tb) (cs : List Addr) (k : Nat) (x : Xc) : Prop where
  sub : AllI (fun j _ => PySem.W.subIn K (.ref (cs.getD k 0)) (.ref (cs.getD j 0)) = some (decide (j ∈ x.up))) 0 pg.xcs
  self : k ∈ x.up
  isc : XisC K (cs.getD k 0)
  xf : XfC K (cs.getD k 0)
  no : AllI (fun _ f => PySem.W.findIn K (.ref (cs.getD k 0)) f = some none) 0 T.flds
theorem con_int {K : PySem.W.Frag} {i : Int} {t : Tok} : ConR K (.int i t) (.int i) := ⟨.int i, ⟨t, rfl⟩, fun _ _ _ => rfl⟩
theorem con_str {K : PySem.W.Frag} {z : Str} {s : List Nat} {t : Tok} (h : z = ⟨s.toArray⟩) (hl : s.length ≤ lim) : ConR K (.str z t) (.str s) := ⟨.str z, ⟨t, rfl⟩, fun _ _ _ => by subst h; exact Rep.mkStr hl⟩
def ConRs (K : PySem.W.Frag) (us : List Value) (ds : List D) : Prop := ∃ vs, Vals vs us ∧ ∀ H β N, Reps K H β N ds vs
theorem con_nil {K : PySem.W.Frag} : ConRs K [] [] := ⟨[], .nil, fun _ _ _ => by unfold Reps; rfl⟩
theorem con_cons {K : PySem.W.Frag} {u : Value} {d : D} {us : List Value} {ds : List D} (h : ConR K u d) (t : ConRs K us ds) : ConRs K (u :: us) (d :: ds) := by
  obtain ⟨v, r, q⟩ := h
  obtain ⟨vs, rs, qs⟩ := t
  exact ⟨v :: vs, .cons r rs, fun H β N => by unfold Reps; exact ⟨v, vs, rfl, q H β N, qs H β N⟩⟩
theorem con_tup {K : PySem.W.Frag} {a : Addr} {od : Option Addr} {its : Array Value} {n : Nat} {sl : Array (Option Value)} {xs : List D} (h : K.lookup a = some ⟨.type "tuple", od, .seq its n, sl⟩) (hz : its.size ≤ sizeLine) (hs : ConRs K its.toList xs) : ConR K (.ref a) (.tup xs) := by
  obtain ⟨vs, rs, qs⟩ := hs
  exact ⟨.ref a, rfl, fun H β N => by unfold Rep; exact ⟨a, vs, rfl, .inr ⟨_, its, n, h, rfl, rfl, hz, rs⟩, qs H β N⟩⟩
theorem lookup_mem {α : Type} {l : List (Str × α)} {x : Str} {d : α} (h : l.lookup x = some d) : (x, d) ∈ l := by
  induction l with
  | nil => cases h
  | cons p l ih =>
    obtain ⟨y, e⟩ := p
    have h' : (match x == y with
      | true => some e
      | false => l.lookup x) = some d := h
    by_cases q : x = y
    · subst q
      rw [show (x == x) = true by simp] at h'
      cases h'
      exact List.mem_cons_self
    · rw [show (x == y) = false by simpa using q] at h'
      exact List.mem_cons_of_mem _ (ih h')
theorem tab_mk {w : World} {K : PySem.W.Frag} {mg : Str → Option Value} {h : Heap} {pg : Pg} {T : Tb} {fs cs : List Addr} (X : K.In h) (G : h.Ns mainGlobals mg)
    (hf : AllI (fun i x => PySem.W.nsIn K mainGlobals x = some (some (.ref (fs.getD i 0))) ∧ PySem.W.keepIn K (.ref (fs.getD i 0)) = true) 0 T.fns) (lf : T.fns.length ≤ pg.fns.length)
    (hx : AllI (fun k y => PySem.W.nsIn K mainGlobals y = some (some (.ref (cs.getD k 0)))) 0 T.xcs) (lx : T.xcs.length ≤ pg.xcs.length)
    (hb : AllI (fun _ x => PySem.W.nsIn K mainGlobals x = some none) 0 T.bls)
    (hc : AllI (fun _ p => ∃ u, PySem.W.nsIn K mainGlobals p.1 = some (some u) ∧ ConR K u p.2) 0 T.cons)
    (hk : AllI (fun k _ => ClsF K (cs.getD k 0)) 0 pg.xcs) (hl : AllI (LiveF K pg T cs) 0 (pg.xcs.take pg.live)) (ll : pg.live ≤ pg.xcs.length)
    (hi : AllI (fun _ k => ∃ x, pg.xcs[k]? = some x ∧ XIni K (cs.getD k 0) x.flds ∧ x.flds.Nodup) 0 T.ini)
    (hq : AllI (fun (q : Nat) (x : Str) => ∃ (f : Addr) (t : Nat × List S) (fd : FuncData) (qual : Str) (st : Stmt) (N : List Str) (p0 : Str) (k : Nat), pg.qns[q]? = some t ∧ PySem.W.nsIn K mainGlobals x = some (some (.ref f)) ∧ PySem.W.keepIn K (.ref f) = true ∧ Fun K x qual st f fd ∧ FnScope N [p0] (defScope st) ∧ Binds K fd [p0] [] ∧ N.length = t.1 ∧ 0 < t.1 ∧ chkSs T k ⟨N, defScope st, defScope st, some (some 0), false⟩ (defBody st) t.2 = true) 0 T.qns)
    (ht : AllI (fun _ p => ∃ a, PySem.W.nsIn K mainGlobals p.1 = some (some (.ref a)) ∧ TabR w K a p.2) 0 T.tabs) : Tab w K mg pg T (fun k => cs.getD k 0) (fun f => fs.getD f 0) := by
  have z0 : ∀ n : Nat, 0 + n = n := fun n => Nat.zero_add n
  have live : ∀ k x, pg.xcs[k]? = some x → k < pg.live → LiveF K pg T cs k x := fun k x e hk2 => by
    have := AllI.get (i := k) (a := x) hl (by rw [List.getElem?_take, if_pos hk2]; exact e)
    rw [z0] at this
    exact this
  have cls : ∀ j, j < pg.xcs.length → ClsF K (cs.getD j 0) := fun j hj => by
    have := AllI.get (i := j) hk (List.getElem?_eq_getElem hj)
    rw [z0] at this
    exact this
  have sub : ∀ k x j, pg.xcs[k]? = some x → k < pg.live → j < pg.xcs.length → PySem.W.subIn K (.ref (cs.getD k 0)) (.ref (cs.getD j 0)) = some (decide (j ∈ x.up)) := fun k x j e h1 h2 => by
    have := AllI.get (i := j) (live k x e h1).sub (List.getElem?_eq_getElem h2)
    rw [z0] at this
    exact this
  have lt : ∀ {k x}, pg.xcs[k]? = some x → k < pg.xcs.length := fun e => (List.getElem?_eq_some_iff.mp e).1
  refine ⟨fun f x e => ?_, fun k y e => ?_, fun x m => ?_, fun x d e => ?_, fun x kvs e => ?_, fun f m k hk2 => ?_, ⟨ll, fun k x j e h1 h2 => (cls j h2).exm (sub k x j e h1 h2), fun k x j e h1 h2 => ?_, fun k h1 => ?_, fun k h1 => ?_⟩, fun k m x e => ?_, fun q x e => ?_⟩
  · have := AllI.get (i := f) hf e
    rw [z0] at this
    exact ⟨PySem.W.mg_of X G this.1, this.2, Nat.lt_of_lt_of_le (List.getElem?_eq_some_iff.mp e).1 lf⟩
  · have := AllI.get (i := k) hx e
    rw [z0] at this
    exact ⟨PySem.W.mg_of X G this, Nat.lt_of_lt_of_le (List.getElem?_eq_some_iff.mp e).1 lx⟩
  · exact PySem.W.mg_none_of X G (AllI.mem (P := fun x => PySem.W.nsIn K mainGlobals x = some none) hb m)
  · obtain ⟨u, h1, v, h2, h3⟩ := AllI.mem hc (lookup_mem e)
    exact ⟨v, u, PySem.W.mg_of X G h1, h2, h3⟩
  · obtain ⟨a, h1, h2⟩ := AllI.mem ht (lookup_mem e)
    exact ⟨a, PySem.W.mg_of X G h1, h2⟩
  · have h1 := Nat.lt_of_lt_of_le hk2 ll
    exact AllI.mem (P := fun f => PySem.W.findIn K (.ref (cs.getD k 0)) f = some none) (live k _ (List.getElem?_eq_getElem h1) hk2).no m
  · refine (cls j h2).one (sub k x j e h1 h2) ?_
    have := sub k x k e h1 (lt e)
    rw [decide_eq_true (live k x e h1).self] at this
    exact this
  · exact (live k _ (List.getElem?_eq_getElem (Nat.lt_of_lt_of_le h1 ll)) h1).isc
  · exact (live k _ (List.getElem?_eq_getElem (Nat.lt_of_lt_of_le h1 ll)) h1).xf
  · obtain ⟨x', e', q⟩ := AllI.mem hi m
    rw [e] at e'
    cases e'
    exact q
  · obtain ⟨f, t, fd, qual, st, N, p0, k, b1, b2, more⟩ := AllI.get (i := q) hq e
    rw [z0] at b1
    exact ⟨f, t, fd, qual, st, N, p0, k, b1, PySem.W.mg_of X G b2, more⟩
/-- the law's promise, of a list of ints handed in -/
def spLaw (n : Nat) (K : PySem.W.Frag) : Sp := fun vs H Q _ => ∃ (a : Addr) (ns : List Int), vs = [.ref a] ∧ ns.length ≤ n ∧ SqF K H a (ns.map V.int) ∧ ∀ H', Q (.bl true) H'
theorem ints_rep {K : PySem.W.Frag} {H : Hp} {β : Bt} {N : Nat} : ∀ ns : List Int, Reps K H β N (ns.map D.int) (ns.map V.int)
  | [] => Reps.nil
  | i :: ns => .cons rfl (ints_rep ns)
theorem sp_law {n d f : Nat} {K : PySem.W.Frag} {pg : Pg} {xa : Nat → Addr} (h : ∀ ns : List Int, ns.length ≤ n → ∃ M, (run pg).f d f [.fl (ns.map .int)] [] = .ok (.bl true) M) (vs : List V) (H : Hp) (Q : VK) (E : XK) (q : spLaw n K vs H Q E) : spF K xa 1 ((run pg).f d f) vs H Q E := by
  obtain ⟨a, ns, rfl, hl, hs, q⟩ := q
  refine ⟨rfl, ⟨fun _ => 0, []⟩, [], [.fl (ns.map .int)], ⟨fun n o e => by simp at e, fun m n h => absurd h (Nat.not_lt_zero _), fun a h => by cases h⟩, ?_, ?_⟩
  · refine .one ?_
    unfold Rep
    exact ⟨a, _, rfl, hs, ints_rep ns⟩
  · obtain ⟨M, e⟩ := h ns hl
    rw [e]
    exact fun β' H' v _ _ r => by
      have : v = .bl true := r
      subst this
      exact q H'
theorem sp_in {n : Nat} {K : PySem.W.Frag} {H : Hp} {a : Addr} {ns : List Int} (hl : ns.length ≤ n) (hO : Only H) (hS : SqL K H a (ns.map V.int)) : spLaw n K [.ref a] H (fun v _ => v = .bl true) fun _ _ _ => False := by
  refine ⟨a, ns, rfl, hl, ?_, fun _ => rfl⟩
  rcases hS with (h | h) | h
  · rcases hO a with q | ⟨o, xs, q⟩
    · rw [q] at h; cases h
    · rw [q] at h; cases h
  · exact .inl h
  · exact .inr h
theorem fn_law {P : Program} {w : World} {K : PySem.W.Frag} {mg : Str → Option Value} {base : Heap} {pg : Pg} {T : Tb} {xa fa : Nat → Addr} {n f d : Nat} {t : Fn} {fd : FuncData} {ps : List Str} (tab : Tab w K mg pg T xa fa) (I : ∀ f t, pg.fns[f]? = some t → ∃ fd ps, FnJ K T fa f t fd ps) (hf : pg.fns[f]? = some t) (J : FnJ K T fa f t fd ps) (ht : t.np = 1)
    (h : ∀ ns : List Int, ns.length ≤ n → ∃ M, (run pg).f d f [.fl (ns.map .int)] [] = .ok (.bl true) M) : FnOk P w K mg base (L2.CX P w) (d + 2) (fa f) fd ps (spLaw n K) := by
  have F := fn_run (P := P) (w := w) (base := base) (d := d) tab I hf J
  rw [ht] at F
  exact F.imp fun vs H Q E q => sp_law h vs H Q E q
end LX

set_option Elab.async false
set_option linter.all false
set_option maxRecDepth 100000
set_option maxHeartbeats 2000000
/-! LxSim: the run's equations, for the simplifier. -/
namespace LX
open PySem L2 PyProof.Rows
section
variable {P : Pg} {c : Cf} {ρ : Env} {M : MH}
@[simp] theorem bind_ok {α γ : Type} (a : α) (M : MH) (k : α → MH → Res γ) : (Res.ok a M).bind k = k a M := rfl
@[simp] theorem bind_exn {α γ : Type} (n : Nat) (fs : Flds) (M : MH) (k : α → MH → Res γ) : (Res.exn n fs M : Res α).bind k = .exn n fs M := rfl
@[simp] theorem sbind_ok {α : Type} (a : α) (ρ : Env) (M : MH) (k : α → MH → SRes) : (Res.ok a M).sbind ρ k = k a M := rfl
@[simp] theorem sbind_exn {α : Type} (n : Nat) (fs : Flds) (ρ : Env) (M : MH) (k : α → MH → SRes) : (Res.exn n fs M : Res α).sbind ρ k = .exn n fs ρ M := rfl
@[simp] theorem ssbind_nx (ρ : Env) (M : MH) (k : Env → MH → SRes) : (SRes.nx ρ M).sbind k = k ρ M := rfl
@[simp] theorem ssbind_rt (d : D) (M : MH) (k : Env → MH → SRes) : (SRes.rt d M).sbind k = .rt d M := rfl
@[simp] theorem ssbind_bk (ρ : Env) (M : MH) (k : Env → MH → SRes) : (SRes.bk ρ M).sbind k = .bk ρ M := rfl
@[simp] theorem ssbind_ct (ρ : Env) (M : MH) (k : Env → MH → SRes) : (SRes.ct ρ M).sbind k = .ct ρ M := rfl
@[simp] theorem ssbind_exn (n : Nat) (fs : Flds) (ρ : Env) (M : MH) (k : Env → MH → SRes) : (SRes.exn n fs ρ M).sbind k = .exn n fs ρ M := rfl
@[simp] theorem ofO_some {α : Type} (a : α) (M : MH) : ofO (some a) M = .ok a M := rfl
@[simp] theorem asI_int (i : Int) : asI (.int i) = some i := rfl
@[simp] theorem asBl_bl (b : Bool) : asBl (.bl b) = some b := rfl
@[simp] theorem tst_bl (b : Bool) (M : MH) (k : Bool → MH → Res D) : tst (.ok (.bl b) M) k = k b M := rfl
@[simp] theorem noExn_ok {α : Type} (a : α) (M : MH) : noExn (.ok a M : Res α) = .ok a M := rfl
@[simp] theorem e_var (i : Nat) : (run P).e c (.var i) ρ M = match ρ[i]? with
    | some (some d) => .ok d M
    | _ => .stuck := run_e
@[simp] theorem e_con (d : D) : (run P).e c (.con d) ρ M = .ok d M := run_e
@[simp] theorem e_tup (es : List E) : (run P).e c (.tup es) ρ M = ((run P).es c es ρ M).bind fun ds M => if ds.length ≤ lim then .ok (.tup ds) M else .stuck := run_e
@[simp] theorem e_lst (m : Bool) (es : List E) : (run P).e c (.lst m es) ρ M = ((run P).es c es ρ M).bind fun ds M => if ds.length ≤ lim then newL m ds M else .stuck := run_e
@[simp] theorem e_bin (m : Bool) (o : Operator) (a b : E) : (run P).e c (.bin m o a b) ρ M = ((run P).e c a ρ M).bind fun x M => ((run P).e c b ρ M).bind fun y M => binD m M o x y := run_e
@[simp] theorem e_neg (a : E) : (run P).e c (.neg a) ρ M = ((run P).e c a ρ M).bind fun x M => (ofO (asI x) M).bind fun i M => .ok (.int (-i)) M := run_e
@[simp] theorem e_cmp (o : CmpOp) (a b : E) : (run P).e c (.cmp o a b) ρ M = ((run P).e c a ρ M).bind fun x M => ((run P).e c b ρ M).bind fun y M => (ofO (cmpD M o x y) M).bind fun k M => .ok (.bl k) M := run_e
@[simp] theorem e_chain (o p : CmpOp) (a b e : E) : (run P).e c (.chain o p a b e) ρ M = ((run P).e c a ρ M).bind fun x M => ((run P).e c b ρ M).bind fun y M => (ofO (cmpD M o x y) M).bind fun k M =>
      if k then ((run P).e c e ρ M).bind fun z M => (ofO (cmpD M p y z) M).bind fun k M => .ok (.bl k) M else .ok (.bl false) M := run_e
@[simp] theorem e_and (a b : E) : (run P).e c (.and a b) ρ M = tst ((run P).e c a ρ M) fun k M => if k then tst ((run P).e c b ρ M) fun k M => .ok (.bl k) M else .ok (.bl false) M := run_e
@[simp] theorem e_or (a b : E) : (run P).e c (.or a b) ρ M = tst ((run P).e c a ρ M) fun k M => if k then .ok (.bl true) M else tst ((run P).e c b ρ M) fun k M => .ok (.bl k) M := run_e
@[simp] theorem e_not (a : E) : (run P).e c (.not a) ρ M = tst ((run P).e c a ρ M) fun k M => .ok (.bl (!k)) M := run_e
@[simp] theorem e_ite (t a b : E) : (run P).e c (.ite t a b) ρ M = tst ((run P).e c t ρ M) fun k M => if k then (run P).e c a ρ M else (run P).e c b ρ M := run_e
@[simp] theorem e_truth (a : E) : (run P).e c (.truth a) ρ M = ((run P).e c a ρ M).bind fun x M => (ofO (truthD M x) M).bind fun k M => .ok (.bl k) M := run_e
@[simp] theorem e_call (f : Nat) (es : List E) : (run P).e c (.call f es) ρ M = ((run P).es c es ρ M).bind fun ds M => (run P).f c.d f ds M := run_e
@[simp] theorem e_fn (m : Bool) (b : Bf) (es : List E) : (run P).e c (.fn m b es) ρ M = ((run P).es c es ρ M).bind fun ds M => fnD m M b ds := run_e
@[simp] theorem e_meth (t : Mt) (o : E) (es : List E) : (run P).e c (.meth t o es) ρ M = ((run P).e c o ρ M).bind fun x M => if recvOk M t x then ((run P).es c es ρ M).bind fun ds M => methD M t x ds else .stuck := run_e
@[simp] theorem e_ix (a i : E) : (run P).e c (.ix a i) ρ M = ((run P).e c a ρ M).bind fun x M => ((run P).e c i ρ M).bind fun y M => ofO (ixD M x y) M := run_e
@[simp] theorem e_cut (m : Bool) (a : E) (lo hi : Option E) : (run P).e c (.cut m a lo hi) ρ M = ((run P).e c a ρ M).bind fun x M => (optE (run P) c lo ρ M).bind fun l M => (optE (run P) c hi ρ M).bind fun h M => cutD m M x l h := run_e
@[simp] theorem e_rev (m : Bool) (a : E) : (run P).e c (.rev m a) ρ M = ((run P).e c a ρ M).bind fun x M => revD m M x := run_e
@[simp] theorem e_lc (m : Bool) (own : List Nat) (g : G) (it : E) (t : Option E) (e : E) : (run P).e c (.lc m own g it t e) ρ M = (itE (run P) c it ρ M).bind fun p M => (noExn (lcL (run P) c g p.1 p.2 t e (wipeE ρ own) p.1 [] M)).bind fun l M => newL m l M := run_e
@[simp] theorem e_lrng (m : Bool) (a : E) : (run P).e c (.lrng m a) ρ M = ((run P).e c a ρ M).bind fun x M => (ofO (rngS x) M).bind fun l M => newL m l M := run_e
@[simp] theorem e_lower (a : E) : (run P).e c (.lower a) ρ M = ((run P).e c a ρ M).bind fun x M => (ofO (lowD x) M).bind fun d M => .ok d M := run_e
@[simp] theorem e_lset (a : E) : (run P).e c (.lset a) ρ M = ((run P).e c a ρ M).bind fun x M => (ofO (texD M x) M).bind fun l M => if l.length < 1000 then .ok (.int (dist l.reverse).length) M else .stuck := run_e
@[simp] theorem e_stp (a : E) (lo : Option E) : (run P).e c (.stp a lo) ρ M = ((run P).e c a ρ M).bind fun x M => (optE (run P) c lo ρ M).bind fun l M => stpD M x l := run_e
@[simp] theorem e_srts (a : E) : (run P).e c (.srts a) ρ M = ((run P).e c a ρ M).bind fun x M => (ofO (texD M x) M).bind fun l M => if decide (l.length < 1000) && (oneL l && decide ((dist l.reverse).length < 64)) then .ok (.tl ((srtT l.reverse).map .str)) M else .stuck := run_e
@[simp] theorem e_callk (f n : Nat) (pm : List Nat) (es : List E) : (run P).e c (.callk f n pm es) ρ M = ((run P).es c es ρ M).bind fun ds M => if ds.length = n then (run P).f c.d f (permL pm ds) M else .stuck := run_e
theorem e_hcall {q d : Nat} {x : Nat × Flds} {t : Nat × List S} (h : P.qns[q]? = some t) : (run P).e ⟨d + 1, some x⟩ (.hcall q) ρ M = hres ((run P).ss ⟨d, some x⟩ t.2 (List.replicate t.1 none) M) := by
  rw [run_e]
  simp only [stepE, h]
@[simp] theorem e_sm (m : Bool) (k : Sm) (a b : E) : (run P).e c (.sm m k a b) ρ M = ((run P).e c a ρ M).bind fun x M => if isStrD x then ((run P).e c b ρ M).bind fun y M => smD m k M x y else .stuck := run_e
@[simp] theorem e_call0 (f : Nat) : (run P).e c (.call0 f) ρ M = noExn ((run P).f c.d f [] M) := run_e
@[simp] theorem e_cdic (kvs : List (List Nat × Int)) : (run P).e c (.cdic kvs) ρ M = .ok (.edic kvs) M := run_e
@[simp] theorem e_cget (a b z : E) : (run P).e c (.cget a b z) ρ M = ((run P).e c a ρ M).bind fun x M => if isCd x then ((run P).e c b ρ M).bind fun y M => ((run P).e c z ρ M).bind fun w M => ofO (cgetD x y w) M else .stuck := run_e
@[simp] theorem e_dix (kvs : List (List Nat × D)) (a : E) : (run P).e c (.dix kvs a) ρ M = ((run P).e c a ρ M).bind fun x M => ofO (dixD kvs x) M := run_e
@[simp] theorem e_tget (kvs : List (List Nat × D)) (a b : E) : (run P).e c (.tget kvs a b) ρ M = ((run P).e c a ρ M).bind fun x M => if isStrD x then ((run P).e c b ρ M).bind fun z M => .ok (tgetD kvs x z) M else .stuck := run_e
@[simp] theorem e_edic : (run P).e c .edic ρ M = .ok (.edic []) M := run_e
@[simp] theorem e_isi (ks : List Kind) (a : E) : (run P).e c (.isi ks a) ρ M = ((run P).e c a ρ M).bind fun x M => .ok (.bl (isKind ks x)) M := run_e
@[simp] theorem e_xat (f : Str) : (run P).e c (.xat f) ρ M = match c.x with
    | some (_, fs) => ofO (fs.lookup f) M
    | none => .stuck := run_e
@[simp] theorem e_xisi (cs : List Nat) : (run P).e c (.xisi cs) ρ M = match c.x with
    | some (k, _) => match P.xcs[k]? with
      | some x => .ok (.bl (cs.any fun j => decide (j ∈ x.up))) M
      | none => .stuck
    | none => .stuck := run_e
@[simp] theorem es_nil : (run P).es c [] ρ M = .ok [] M := run_es
@[simp] theorem es_cons (e : E) (es : List E) : (run P).es c (e :: es) ρ M = ((run P).e c e ρ M).bind fun d M => ((run P).es c es ρ M).bind fun ds M => .ok (d :: ds) M := run_es
@[simp] theorem opt_none : optE (run P) c none ρ M = .ok none M := rfl
@[simp] theorem opt_some (e : E) : optE (run P) c (some e) ρ M = ((run P).e c e ρ M).bind fun d M => (ofO (asI d) M).bind fun i M => .ok (some i) M := rfl
@[simp] theorem it_rng1 (a : E) : itE (run P) c (.rng1 a) ρ M = ((run P).e c a ρ M).bind fun x M => (ofO (rng1D x) M).bind fun l M => .ok (l, none) M := rfl
@[simp] theorem it_rng3 (a b d : E) : itE (run P) c (.rng3 a b d) ρ M = ((run P).e c a ρ M).bind fun x M => ((run P).e c b ρ M).bind fun y M => ((run P).e c d ρ M).bind fun z M => (ofO (rng3D x y z) M).bind fun l M => .ok (l, none) M := rfl
@[simp] theorem it_rng2 (a b : E) : itE (run P) c (.rng2 a b) ρ M = ((run P).e c a ρ M).bind fun x M => ((run P).e c b ρ M).bind fun y M => (ofO (rng2D x y) M).bind fun l M => .ok (l, none) M := rfl
@[simp] theorem it_zip (a b : E) : itE (run P) c (.zip a b) ρ M = ((run P).e c a ρ M).bind fun x M => ((run P).e c b ρ M).bind fun y M => (ofO (zipD x y) M).bind fun l M => .ok (l, none) M := rfl
@[simp] theorem it_var (i : Nat) : itE (run P) c (.var i) ρ M = ((run P).e c (.var i) ρ M).bind fun d M => ofO (itemsD M d) M := rfl
@[simp] theorem it_con (d : D) : itE (run P) c (.con d) ρ M = ofO (itemsD M d) M := by
  show ((run P).e c (.con d) ρ M).bind _ = _
  simp
@[simp] theorem it_call (f : Nat) (es : List E) : itE (run P) c (.call f es) ρ M = ((run P).e c (.call f es) ρ M).bind fun d M => ofO (itemsD M d) M := rfl
@[simp] theorem it_cut (m : Bool) (a : E) (l h : Option E) : itE (run P) c (.cut m a l h) ρ M = ((run P).e c (.cut m a l h) ρ M).bind fun d M => ofO (itemsD M d) M := rfl
@[simp] theorem it_tup (es : List E) : itE (run P) c (.tup es) ρ M = ((run P).e c (.tup es) ρ M).bind fun d M => ofO (itemsD M d) M := rfl
@[simp] theorem it_bin (m : Bool) (o : Operator) (a b : E) : itE (run P) c (.bin m o a b) ρ M = ((run P).e c (.bin m o a b) ρ M).bind fun d M => ofO (itemsD M d) M := rfl
@[simp] theorem it_ix (a b : E) : itE (run P) c (.ix a b) ρ M = ((run P).e c (.ix a b) ρ M).bind fun d M => ofO (itemsD M d) M := rfl
@[simp] theorem it_lst (m : Bool) (es : List E) : itE (run P) c (.lst m es) ρ M = ((run P).e c (.lst m es) ρ M).bind fun d M => ofO (itemsD M d) M := rfl
@[simp] theorem ts_none : tests (run P) c none ρ M = .ok true M := rfl
@[simp] theorem ts_some (t : E) : tests (run P) c (some t) ρ M = ((run P).e c t ρ M).bind fun d M => ofO (asBl d) M := rfl
@[simp] theorem ss_nil' : (run P).ss c [] ρ M = .nx ρ M := run_ss
@[simp] theorem ss_cons' (t : S) (ts : List S) : (run P).ss c (t :: ts) ρ M = ((run P).s c t ρ M).sbind fun ρ M => (run P).ss c ts ρ M := run_ss
@[simp] theorem st_expr (e : E) : (run P).s c (.expr e) ρ M = ((run P).e c e ρ M).sbind ρ fun _ M => .nx ρ M := run_s
@[simp] theorem st_ret (e : E) : (run P).s c (.ret e) ρ M = ((run P).e c e ρ M).sbind ρ fun d M => .rt d M := run_s
@[simp] theorem st_retN : (run P).s c .retN ρ M = .rt .non M := run_s
@[simp] theorem st_pass : (run P).s c .pass ρ M = .nx ρ M := run_s
@[simp] theorem st_brk : (run P).s c .brk ρ M = .bk ρ M := run_s
@[simp] theorem st_cont : (run P).s c .cont ρ M = .ct ρ M := run_s
@[simp] theorem st_set (i : Nat) (e : E) : (run P).s c (.set i e) ρ M = ((run P).e c e ρ M).sbind ρ fun d M => .nx (ρ.set i (some d)) M := run_s
@[simp] theorem st_unp (is : List Nat) (e : E) : (run P).s c (.unp is e) ρ M = ((run P).e c e ρ M).sbind ρ fun d M => match bindG (.tup is) d ρ with
    | some ρ' => .nx ρ' M
    | none => .stuck := run_s
@[simp] theorem st_unl (is : List Nat) (e : E) : (run P).s c (.unl is e) ρ M = ((run P).e c e ρ M).sbind ρ fun d M => match tlOf M d with
    | some xs => if is.length = xs.length then .nx (setAll is xs ρ) M else .stuck
    | none => .stuck := run_s
@[simp] theorem st_par (i j : Nat) (a b : E) : (run P).s c (.par i j a b) ρ M = ((run P).e c a ρ M).sbind ρ fun x M => ((run P).e c b ρ M).sbind ρ fun y M => .nx ((ρ.set i (some x)).set j (some y)) M := run_s
@[simp] theorem st_par3 (i j k : Nat) (a b e : E) : (run P).s c (.par3 i j k a b e) ρ M = ((run P).e c a ρ M).sbind ρ fun x M => ((run P).e c b ρ M).sbind ρ fun y M => ((run P).e c e ρ M).sbind ρ fun z M => .nx (((ρ.set i (some x)).set j (some y)).set k (some z)) M := run_s
@[simp] theorem st_put (o i e : E) : (run P).s c (.put o i e) ρ M = ((run P).e c e ρ M).sbind ρ fun v M => ((run P).e c o ρ M).sbind ρ fun x M => ((run P).e c i ρ M).sbind ρ fun y M => match putD M x y v with
    | some M => .nx ρ M
    | none => .stuck := run_s
@[simp] theorem st_aug (i : Nat) (o : Operator) (e : E) : (run P).s c (.aug i o e) ρ M = match ρ[i]? with
    | some (some x) => ((run P).e c e ρ M).sbind ρ fun y M => (augD M o x y).sbind ρ fun d M => .nx (ρ.set i (some d)) M
    | _ => .stuck := run_s
@[simp] theorem st_ite (t : E) (a b : List S) : (run P).s c (.ite t a b) ρ M = ((run P).e c t ρ M).sbind ρ fun d M => match asBl d with
    | some true => (run P).ss c a ρ M
    | some false => (run P).ss c b ρ M
    | none => .stuck := run_s
theorem st_wh (t : E) (b : List S) : (run P).s c (.wh t b) ρ M = ((run P).e c t ρ M).sbind ρ fun d M => match asBl d with
    | some true => match (run P).ss c b ρ M with
      | .nx ρ M => (run P).s c (.wh t b) ρ M
      | .ct ρ M => (run P).s c (.wh t b) ρ M
      | .bk ρ M => .nx ρ M
      | r => r
    | some false => .nx ρ M
    | none => .stuck := run_s
@[simp] theorem st_for (g : G) (it : E) (b : List S) : (run P).s c (.for g it b) ρ M = (itE (run P) c it ρ M).sbind ρ fun p M => forL (run P) c g p.1 p.2 b p.1 ρ M := run_s
@[simp] theorem st_raise (k : Nat) (es : List E) : (run P).s c (.raise k es) ρ M = ((run P).es c es ρ M).sbind ρ fun ds M => match P.xcs[k]? with
    | some x => if x.flds.length = ds.length then .exn k (zipF x.flds ds) ρ M else .stuck
    | none => .stuck := run_s
@[simp] theorem st_try (b : List S) (hs : List (Nat × Option Nat × List S)) : (run P).s c (.try b hs) ρ M = match (run P).ss c b ρ M with
    | .exn k fs ρ M => if k < P.live then match clause P k hs with
      | some (n, b) => if slotIn n ρ then ((run P).ss { c with x := some (k, fs) } b (gone n ρ) M).map (gone n) else .stuck
      | none => .exn k fs ρ M
      else .stuck
    | r => r := run_s
/-- a call -/
theorem call_eq {d f : Nat} {t : Fn} {ds : List D} (hf : P.fns[f]? = some t) (hl : ds.length = t.np) : (run P).f (d + 1) f ds M = endF t.fz M.length ((run P).ss ⟨d, none⟩ t.body (startE t.ns ds) M) := by
  rw [run_f]
  unfold stepF
  rw [hf]
  exact if_pos hl
end
/-- the heap is closed -/
abbrev Cl (M : MH) : Prop := MH.und M.length M = true
theorem cl_nil : Cl [] := rfl
end LX
namespace LX
open PySem L2 PyProof.Rows
section
variable {P : Pg} {c : Cf} {g : G} {all : List D} {b : List S} {t : E}
/-- a loop that runs to its end -/
theorem for_nx (I : Nat → Env → MH → Prop) : ∀ {l : List D} {s : Nat} {ρ : Env} {M : MH}, (∀ i x ρ M, l[i]? = some x → I (s + i) ρ M → ∃ ρ1 ρ2 M2, bindG g x ρ = some ρ1 ∧ ((run P).ss c b ρ1 M = .nx ρ2 M2 ∨ (run P).ss c b ρ1 M = .ct ρ2 M2) ∧ I (s + i + 1) ρ2 M2) → I s ρ M →
    ∃ ρ' M', forL (run P) c g all none b l ρ M = .nx ρ' M' ∧ I (s + l.length) ρ' M'
  | [], s, ρ, M, _, h => ⟨ρ, M, by unfold forL; rfl, h⟩
  | x :: l, s, ρ, M, hs, h => by
    obtain ⟨ρ1, ρ2, M2, e1, e2, h2⟩ := hs 0 x ρ M rfl h
    obtain ⟨ρ', M', e3, h3⟩ := for_nx I (l := l) (s := s + 1) (ρ := ρ2) (M := M2) (fun i y ρ M e q => by
      have z := hs (i + 1) y ρ M (by simpa using e) (by rw [show s + (i + 1) = s + 1 + i by omega]; exact q)
      rw [show s + (i + 1) + 1 = s + 1 + i + 1 by omega] at z
      exact z) h2
    refine ⟨ρ', M', ?_, by rw [List.length_cons, show s + (l.length + 1) = s + 1 + l.length by omega]; exact h3⟩
    unfold forL
    rw [if_pos (show stays M all none = true from rfl), e1]
    dsimp only
    rcases e2 with e2 | e2
    · rw [e2]
      exact e3
    · rw [e2]
      exact e3
/-- a comprehension without a test -/
theorem lc_nx {e : E} {ρ : Env} (I : Nat → List D → MH → Prop) : ∀ {l acc : List D} {s : Nat} {M : MH}, (∀ i x acc M, l[i]? = some x → I (s + i) acc M → ∃ ρ1 v M2, bindG g x ρ = some ρ1 ∧ (run P).e c e ρ1 M = .ok v M2 ∧ I (s + i + 1) (acc ++ [v]) M2) → I s acc M → acc.length + l.length ≤ lim →
    ∃ r M', lcL (run P) c g all none none e ρ l acc M = .ok r M' ∧ I (s + l.length) r M'
  | [], acc, s, M, _, h, _ => ⟨acc, M, by unfold lcL; rfl, h⟩
  | x :: l, acc, s, M, hs, h, hz => by
    rw [List.length_cons] at hz
    obtain ⟨ρ1, v, M2, e1, e2, h2⟩ := hs 0 x acc M rfl h
    obtain ⟨r, M', e3, h3⟩ := lc_nx I (l := l) (acc := acc ++ [v]) (s := s + 1) (M := M2) (fun i y acc M e q => by
      have z := hs (i + 1) y acc M (by simpa using e) (by rw [show s + (i + 1) = s + 1 + i by omega]; exact q)
      rw [show s + (i + 1) + 1 = s + 1 + i + 1 by omega] at z
      exact z) h2 (by simp; omega)
    refine ⟨r, M', ?_, by rw [List.length_cons, show s + (l.length + 1) = s + 1 + l.length by omega]; exact h3⟩
    unfold lcL
    rw [if_pos (show stays M all none = true from rfl), e1]
    simp [e2]
    rw [if_pos (by omega)]
    exact e3
/-- a comprehension whose items are made by a function, the heap left alone -/
theorem lc_map {e : E} {ρ : Env} (f : D → D) {l acc : List D} {M : MH} (h : ∀ x ∈ l, ∃ ρ1, bindG g x ρ = some ρ1 ∧ (run P).e c e ρ1 M = .ok (f x) M) (hz : acc.length + l.length ≤ lim) :
    lcL (run P) c g all none none e ρ l acc M = .ok (acc ++ l.map f) M := by
  induction l generalizing acc with
  | nil => unfold lcL; rw [if_pos (show stays M all none = true from rfl)]; simp
  | cons x l ih =>
    rw [List.length_cons] at hz
    obtain ⟨ρ1, e1, e2⟩ := h x List.mem_cons_self
    unfold lcL
    rw [if_pos (show stays M all none = true from rfl), e1]
    simp [e2]
    rw [if_pos (by omega), ih (fun y hy => h y (List.mem_cons_of_mem _ hy)) (by simp; omega)]
    simp
/-- a while loop that runs to its end -/
theorem wh_nx (I : Nat → Env → MH → Prop) (h : ∀ k ρ M, I k ρ M → (run P).e c t ρ M = .ok (.bl false) M ∨ ((run P).e c t ρ M = .ok (.bl true) M ∧ ∃ ρ2 M2 k2, ((run P).ss c b ρ M = .nx ρ2 M2 ∨ (run P).ss c b ρ M = .ct ρ2 M2) ∧ k2 < k ∧ I k2 ρ2 M2)) :
    ∀ k ρ M, I k ρ M → ∃ ρ' M' k', (run P).s c (.wh t b) ρ M = .nx ρ' M' ∧ I k' ρ' M' ∧ (run P).e c t ρ' M' = .ok (.bl false) M' := by
  intro k
  induction k using Nat.strongRecOn with
  | ind k ih =>
    intro ρ M hi
    rcases h k ρ M hi with e | ⟨e, ρ2, M2, k2, e2, hk, h2⟩
    · refine ⟨ρ, M, k, ?_, hi, e⟩
      rw [st_wh, e]
      rfl
    · obtain ⟨ρ', M', k', e3, h3, h4⟩ := ih k2 hk ρ2 M2 h2
      refine ⟨ρ', M', k', ?_, h3, h4⟩
      rw [st_wh, e]
      rcases e2 with e2 | e2
      · simp [e2, e3]
      · simp [e2, e3]
end
end LX
namespace LX
open PySem L2 PyProof.Rows
/-! ### heaps with a cell at the end; plain data -/
@[simp] theorem lstAt_app {M : MH} {xs : List D} : lstAt (M ++ [.lst xs]) M.length = some xs := by
  unfold lstAt
  rw [List.getElem?_append_right (Nat.le_refl _), Nat.sub_self]
  rfl
@[simp] theorem set_app {M : MH} {m m' : MO} : (M ++ [m]).set M.length m' = M ++ [m'] := by
  rw [List.set_append_right _ _ (Nat.le_refl _), Nat.sub_self]
  rfl
@[simp] theorem take_app' {M : MH} {m : MO} : (M ++ [m]).take M.length = M := by simp
mutual
/-- ints, texts, None, True, False, and tuples of such -/
def D.pl : D → Bool
  | .non => true
  | .bl _ => true
  | .int _ => true
  | .str _ => true
  | .tup xs => D.pls xs
  | _ => false
def D.pls : List D → Bool
  | [] => true
  | x :: xs => D.pl x && D.pls xs
end
mutual
def D.sz : D → Nat
  | .tup xs => 1 + D.szs xs
  | _ => 1
def D.szs : List D → Nat
  | [] => 0
  | x :: xs => D.sz x + D.szs xs
end
mutual
theorem pl_und (n : Nat) : ∀ {d : D}, D.pl d = true → D.und n d = true
  | .non, _ => rfl
  | .bl _, _ => rfl
  | .int _, _ => rfl
  | .str _, _ => rfl
  | .tup xs, h => pls_und n (ds := xs) h
  | .tl _, h => by cases h
  | .fl _, h => by cases h
  | .ref _, h => by cases h
  | .edic _, h => by cases h
theorem pls_und (n : Nat) : ∀ {ds : List D}, D.pls ds = true → D.undAll n ds = true
  | [], _ => rfl
  | d :: ds, h => by
    have h : (D.pl d && D.pls ds) = true := h
    rw [Bool.and_eq_true] at h
    show (D.und n d && D.undAll n ds) = true
    rw [pl_und n h.1, pls_und n h.2]
    rfl
end
theorem pls_mem : ∀ {ds : List D}, D.pls ds = true → ∀ d ∈ ds, D.pl d = true
  | [], _, d, h => by cases h
  | e :: ds, q, d, h => by
    have q : (D.pl e && D.pls ds) = true := q
    rw [Bool.and_eq_true] at q
    rcases List.mem_cons.mp h with rfl | h
    · exact q.1
    · exact pls_mem q.2 d h
theorem pls_of : ∀ {ds : List D}, (∀ d ∈ ds, D.pl d = true) → D.pls ds = true
  | [], _ => rfl
  | e :: ds, h => by
    show (D.pl e && D.pls ds) = true
    rw [h e List.mem_cons_self, pls_of fun d hd => h d (List.mem_cons_of_mem _ hd)]
    rfl
theorem szs_app : ∀ (xs ys : List D), D.szs (xs ++ ys) = D.szs xs + D.szs ys
  | [], ys => by show D.szs ys = 0 + D.szs ys; omega
  | x :: xs, ys => by
    show D.sz x + D.szs (xs ++ ys) = D.sz x + D.szs xs + D.szs ys
    rw [szs_app xs ys]
    omega
theorem sz_pos (d : D) : 1 ≤ D.sz d := by cases d <;> unfold D.sz <;> omega
theorem len_szs : ∀ xs : List D, xs.length ≤ D.szs xs
  | [] => Nat.le_refl _
  | x :: xs => by
    have h1 := sz_pos x
    have h2 := len_szs xs
    show xs.length + 1 ≤ D.sz x + D.szs xs
    omega
/-- the end of a def that hands back plain data and leaves what was there as it was -/
theorem endF_pl {M M' : MH} {d : D} (h : D.pl d = true) (hM : Cl M) (ht : M'.take M.length = M) : endF true M.length (.rt d M') = .ok d M := by
  have key : (D.und M.length d && MH.und M.length (M'.take M.length)) = true := by
    rw [ht, pl_und _ h]
    exact hM
  have fin : (if (D.und M.length d && MH.und M.length (M'.take M.length)) = true then Res.ok d (M'.take M.length) else .stuck) = .ok d M := by rw [if_pos key, ht]
  cases d with
  | ref k => cases h
  | _ => exact fin
end LX
namespace LX
open PySem L2 PyProof.Rows
theorem rngL_get {lo : Int} {n i : Nat} {x : D} (h : (rngL lo n)[i]? = some x) : i < n ∧ x = .int (lo + i) := by
  unfold rngL at h
  rw [List.getElem?_map] at h
  obtain ⟨k, e1, e2⟩ := Option.map_eq_some_iff.mp h
  have hi := (List.getElem?_eq_some_iff.mp e1).1
  rw [List.length_range] at hi
  rw [List.getElem?_range hi] at e1
  cases e1
  exact ⟨hi, e2.symm⟩
theorem rngL_len {lo : Int} {n : Nat} : (rngL lo n).length = n := by unfold rngL; rw [List.length_map, List.length_range]
theorem atI_at {α : Type} {xs : List α} {i : Nat} : L2.atI xs (i : Int) = xs[i]? := by
  unfold L2.atI L2.ixN
  by_cases h : i < xs.length
  · rw [if_pos (by omega), if_pos (by omega)]
    rfl
  · rw [if_pos (by omega), if_neg (by omega), List.getElem?_eq_none (by omega)]
    rfl
theorem atI_0 {α : Type} {xs : List α} : L2.atI xs 0 = xs[0]? := atI_at (i := 0)
theorem ixN_at {n i : Nat} (h : i < n) : L2.ixN n (i : Int) = some i := by
  unfold L2.ixN
  rw [if_pos (by omega), if_pos (by omega)]
  rfl
theorem fits_nat {n : Nat} (h : n ≤ lim) : fits (n : Int) = true := by
  unfold fits
  have : lim = 16777216 := rfl
  rw [decide_eq_true (by omega), decide_eq_true (by omega)]
  rfl
theorem rngS_nat {n : Nat} (h : n ≤ 16777216) : rngS (.int n) = some (rngL 0 n) := by
  show (if (decide (-(2 ^ 62) ≤ (n : Int)) && decide ((n : Int) ≤ 16777216)) = true then some (rngL 0 (n : Int).toNat) else none) = _
  rw [if_pos (by rw [Bool.and_eq_true, decide_eq_true_eq, decide_eq_true_eq]; omega)]
  rfl
theorem rng1_nat {n : Nat} (h : n ≤ lim) : rng1D (.int n) = some (rngL 0 n) := by
  show (if fits (n : Int) = true then some (rngL 0 (n : Int).toNat) else none) = _
  rw [if_pos (fits_nat h)]
  rfl
end LX
namespace LX
open PySem L2 PyProof.Rows
section
variable {m : Bool} {M : MH} {i j : Int} {s t : List Nat} {xs ys : List D} {d : D} {n : Nat}
@[simp] theorem len_str : fnD m M .len [.str s] = .ok (.int s.length) M := rfl
@[simp] theorem len_tup : fnD m M .len [.tup xs] = .ok (.int xs.length) M := rfl
@[simp] theorem len_tl : fnD m M .len [.tl xs] = .ok (.int xs.length) M := rfl
@[simp] theorem len_fl : fnD m M .len [.fl xs] = .ok (.int xs.length) M := rfl
@[simp] theorem len_ref : fnD m M .len [.ref n] = (ofO (lstAt M n) M).bind fun xs M => .ok (.int xs.length) M := rfl
@[simp] theorem abs_int : fnD m M .abs [.int i] = .ok (.int (if i < 0 then -i else i)) M := rfl
@[simp] theorem int_int : fnD m M .int [.int i] = .ok (.int i) M := rfl
@[simp] theorem int_bl {b : Bool} : fnD m M .int [.bl b] = .ok (.int (if b then 1 else 0)) M := rfl
@[simp] theorem max_int : fnD m M .max2 [.int i, .int j] = .ok (.int (if j > i then j else i)) M := rfl
@[simp] theorem min_int : fnD m M .min2 [.int i, .int j] = .ok (.int (if j < i then j else i)) M := rfl
@[simp] theorem list_str : fnD m M .list [.str s] = newL m (s.map fun c => .str [c]) M := rfl
@[simp] theorem list_tup : fnD m M .list [.tup xs] = newL m xs M := rfl
@[simp] theorem list_tl : fnD m M .list [.tl xs] = newL m xs M := rfl
@[simp] theorem list_fl : fnD m M .list [.fl xs] = newL m xs M := rfl
@[simp] theorem list_ref : fnD m M .list [.ref n] = (ofO (lstAt M n) M).bind fun xs M => newL m xs M := rfl
@[simp] theorem tuple_str : fnD m M .tuple [.str s] = .ok (.tup (s.map fun c => .str [c])) M := rfl
@[simp] theorem tuple_tup : fnD m M .tuple [.tup xs] = .ok (.tup xs) M := rfl
@[simp] theorem tuple_tl : fnD m M .tuple [.tl xs] = .ok (.tup xs) M := rfl
@[simp] theorem tuple_fl : fnD m M .tuple [.fl xs] = .ok (.tup xs) M := rfl
@[simp] theorem tuple_ref : fnD m M .tuple [.ref n] = (ofO (lstAt M n) M).bind fun xs M => .ok (.tup xs) M := rfl
@[simp] theorem newL_f : newL false xs M = .ok (.tl xs) M := rfl
@[simp] theorem newL_t : newL true xs M = .ok (.ref M.length) (M ++ [.lst xs]) := rfl
@[simp] theorem eq_int : cmpD M .Eq (.int i) (.int j) = some (i == j) := rfl
@[simp] theorem ne_int : cmpD M .NotEq (.int i) (.int j) = some (!(i == j)) := rfl
@[simp] theorem lt_int : cmpD M .Lt (.int i) (.int j) = some (decide (i < j)) := rfl
@[simp] theorem le_int : cmpD M .LtE (.int i) (.int j) = some (decide (i ≤ j)) := rfl
@[simp] theorem gt_int : cmpD M .Gt (.int i) (.int j) = some (decide (j < i)) := rfl
@[simp] theorem ge_int : cmpD M .GtE (.int i) (.int j) = some (decide (j ≤ i)) := rfl
@[simp] theorem eq_str : cmpD M .Eq (.str s) (.str t) = some (s == t) := rfl
@[simp] theorem ne_str : cmpD M .NotEq (.str s) (.str t) = some (!(s == t)) := rfl
@[simp] theorem eq_bl {a b : Bool} : cmpD M .Eq (.bl a) (.bl b) = some (a == b) := rfl
@[simp] theorem ne_bl {a b : Bool} : cmpD M .NotEq (.bl a) (.bl b) = some (!(a == b)) := rfl
@[simp] theorem is_non : cmpD M .Is d .non = some (isNon d) := by cases d <;> rfl
@[simp] theorem isn_non : cmpD M .IsNot d .non = some (!isNon d) := by cases d <;> rfl
@[simp] theorem isNon_non : isNon .non = true := rfl
@[simp] theorem isNon_int : isNon (.int i) = false := rfl
@[simp] theorem isNon_bl {b : Bool} : isNon (.bl b) = false := rfl
@[simp] theorem isNon_str : isNon (.str s) = false := rfl
@[simp] theorem isNon_tup : isNon (.tup xs) = false := rfl
@[simp] theorem isNon_tl : isNon (.tl xs) = false := rfl
@[simp] theorem add_int : binD m M .Add (.int i) (.int j) = .ok (.int (i + j)) M := rfl
@[simp] theorem sub_int : binD m M .Sub (.int i) (.int j) = .ok (.int (i - j)) M := rfl
theorem mul_int : binD m M .Mult (.int i) (.int j) = if smallI i || smallI j then .ok (.int (i * j)) M else if bigI i j then .ok (.int (i * j)) M else .stuck := rfl
theorem mul_l (h : smallI i = true) : binD m M .Mult (.int i) (.int j) = .ok (.int (i * j)) M := by rw [mul_int, h]; rfl
theorem mul_r (h : smallI j = true) : binD m M .Mult (.int i) (.int j) = .ok (.int (i * j)) M := by rw [mul_int, h, Bool.or_true]; rfl
theorem mod_int (h : j ≠ 0) : binD m M .Mod (.int i) (.int j) = .ok (.int (i.fmod j)) M := by
  show (if j ≠ 0 then _ else _) = _
  rw [if_pos h]
theorem div_int (h : j ≠ 0) (h2 : j.natAbs < 1073741824) : binD m M .FloorDiv (.int i) (.int j) = .ok (.int (i.fdiv j)) M := by
  show (if (decide (j ≠ 0) && decide (j.natAbs < 1073741824)) = true then _ else _) = _
  rw [decide_eq_true h, decide_eq_true h2]
  rfl
theorem add_str (h : s.length + t.length ≤ lim) : binD m M .Add (.str s) (.str t) = .ok (.str (s ++ t)) M := if_pos h
theorem add_tup (h : xs.length + ys.length ≤ lim) : binD m M .Add (.tup xs) (.tup ys) = .ok (.tup (xs ++ ys)) M := if_pos h
theorem add_tl (h : xs.length + ys.length ≤ lim) : binD m M .Add (.tl xs) (.tl ys) = newL m (xs ++ ys) M := by
  have e : binD m M .Add (.tl xs) (.tl ys) = if xs.length + ys.length ≤ lim then newL m (xs ++ ys) M else .stuck := rfl
  rw [e, if_pos h]
@[simp] theorem ix_ref : ixD M (.ref n) (.int i) = (lstAt M n).bind fun xs => L2.atI xs i := rfl
@[simp] theorem ix_tup : ixD M (.tup xs) (.int i) = L2.atI xs i := rfl
@[simp] theorem ix_tl : ixD M (.tl xs) (.int i) = L2.atI xs i := rfl
@[simp] theorem ix_fl : ixD M (.fl xs) (.int i) = L2.atI xs i := rfl
@[simp] theorem ix_str : ixD M (.str s) (.int i) = (L2.atI s i).map fun c => .str [c] := rfl
@[simp] theorem put_ref : putD M (.ref n) (.int i) d = (lstAt M n).bind fun xs => (L2.ixN xs.length i).map fun j => M.set n (.lst (xs.set j d)) := rfl
@[simp] theorem rev_str : revD m M (.str s) = .ok (.str s.reverse) M := rfl
@[simp] theorem rev_tup : revD m M (.tup xs) = .ok (.tup xs.reverse) M := rfl
@[simp] theorem tr_bl {b : Bool} : truthD M (.bl b) = some b := rfl
@[simp] theorem bind_one {ρ : Env} {k : Nat} : bindG (.one k) d ρ = some (ρ.set k (some d)) := rfl
@[simp] theorem append_ref : methD M .append (.ref n) [d] = (ofO (lstAt M n) M).bind fun xs M => if xs.length < lim then .ok .non (M.set n (.lst (xs ++ [d]))) else .stuck := rfl
@[simp] theorem pop0_ref : methD M .pop0 (.ref n) [] = (ofO (lstAt M n) M).bind fun xs M => (ofO (xs[xs.length - 1]?) M).bind fun d M => .ok d (M.set n (.lst xs.dropLast)) := rfl
@[simp] theorem recv_join : recvOk M .join (.str s) = true := rfl
@[simp] theorem recv_app : recvOk M .append (.ref n) = (lstAt M n).isSome := rfl
@[simp] theorem recv_pop0 : recvOk M .pop0 (.ref n) = (lstAt M n).isSome := rfl
@[simp] theorem recv_pop1 : recvOk M .pop1 (.ref n) = (lstAt M n).isSome := rfl
@[simp] theorem recv_ext : recvOk M .extend (.ref n) = (lstAt M n).isSome := rfl
@[simp] theorem items_tup : itemsD M (.tup xs) = some (xs, none) := rfl
@[simp] theorem items_tl : itemsD M (.tl xs) = some (xs, none) := rfl
@[simp] theorem items_fl : itemsD M (.fl xs) = some (xs, none) := rfl
@[simp] theorem items_str : itemsD M (.str s) = some (s.map fun c => .str [c], none) := rfl
end
end LX
namespace LX
open PySem L2 PyProof.Rows
mutual
theorem und_mono {n m : Nat} (h : n ≤ m) : ∀ {d : D}, D.und n d = true → D.und m d = true
  | .non, _ => rfl
  | .bl _, _ => rfl
  | .int _, _ => rfl
  | .str _, _ => rfl
  | .tup xs, q => unds_mono h (ds := xs) q
  | .tl xs, q => unds_mono h (ds := xs) q
  | .fl xs, q => unds_mono h (ds := xs) q
  | .ref k, q => decide_eq_true (Nat.lt_of_lt_of_le (of_decide_eq_true q) h)
  | .edic _, _ => rfl
theorem unds_mono {n m : Nat} (h : n ≤ m) : ∀ {ds : List D}, D.undAll n ds = true → D.undAll m ds = true
  | [], _ => rfl
  | d :: ds, q => by
    have q : (D.und n d && D.undAll n ds) = true := q
    rw [Bool.and_eq_true] at q
    show (D.und m d && D.undAll m ds) = true
    rw [und_mono h q.1, unds_mono h q.2]
    rfl
end
theorem unds_of {n : Nat} : ∀ {ds : List D}, (∀ d ∈ ds, D.und n d = true) → D.undAll n ds = true
  | [], _ => rfl
  | e :: ds, h => by
    show (D.und n e && D.undAll n ds) = true
    rw [h e List.mem_cons_self, unds_of fun d hd => h d (List.mem_cons_of_mem _ hd)]
    rfl
theorem unds_mem {n : Nat} : ∀ {ds : List D}, D.undAll n ds = true → ∀ d ∈ ds, D.und n d = true
  | [], _, d, h => by cases h
  | e :: ds, q, d, h => by
    have q : (D.und n e && D.undAll n ds) = true := q
    rw [Bool.and_eq_true] at q
    rcases List.mem_cons.mp h with rfl | h
    · exact q.1
    · exact unds_mem q.2 d h
theorem mo_mono {n m : Nat} (h : n ≤ m) {o : MO} (q : MO.und n o = true) : MO.und m o = true := by
  cases o with
  | lst xs => exact unds_mono h (ds := xs) q
/-- no cell holds a list that is written to -/
def Nr (M : MH) : Prop := ∀ m ∈ M, MO.und 0 m = true
theorem Nr.cl {M : MH} (h : Nr M) (n : Nat) : MH.und n M = true := List.all_eq_true.mpr fun m hm => mo_mono (Nat.zero_le n) (h m hm)
theorem Nr.app {M N : MH} (h : Nr M) (h' : Nr N) : Nr (M ++ N) := fun m hm => (List.mem_append.mp hm).elim (h m) (h' m)
theorem Nr.cons {m : MO} {M : MH} (h : MO.und 0 m = true) (h' : Nr M) : Nr (m :: M) := fun x hx => (List.mem_cons.mp hx).elim (fun e => e ▸ h) (h' x)
theorem Nr.nil : Nr [] := fun m hm => by cases hm
theorem Nr.tail {m : MO} {M : MH} (h : Nr (m :: M)) : Nr M := fun x hx => h x (List.mem_cons_of_mem _ hx)
/-- the end of a def that hands back a list that it made -/
theorem endF_tl {M M' : MH} {n : Nat} {k : Nat} {xs : List D} (hk : ¬ k < n) (hl : lstAt M' k = some xs) (hx : D.undAll 0 xs = true) (ht : M'.take n = M) (hM : Nr M) : endF true n (.rt (.ref k) M') = .ok (.tl xs) M := by
  show freeze n (.ref k) M' = _
  unfold freeze
  dsimp only
  rw [if_neg hk, hl, ht]
  dsimp only
  rw [unds_mono (Nat.zero_le n) hx, hM.cl n]
  rfl
/-- .. that hands back a value without such lists -/
theorem endF_v {M M' : MH} {n : Nat} {d : D} (hd : D.und 0 d = true) (ht : M'.take n = M) (hM : Nr M) : endF true n (.rt d M') = .ok d M := by
  have key : (D.und n d && MH.und n (M'.take n)) = true := by
    rw [ht, und_mono (Nat.zero_le n) hd, hM.cl n]
    rfl
  have fin : (if (D.und n d && MH.und n (M'.take n)) = true then Res.ok d (M'.take n) else .stuck) = .ok d M := by rw [if_pos key, ht]
  cases d with
  | ref k => cases hd
  | _ => exact fin
theorem endF_nx {M M' : MH} {n : Nat} {ρ : Env} (ht : M'.take n = M) (hM : Nr M) : endF true n (.nx ρ M') = .ok .non M := endF_v (d := .non) rfl ht hM
end LX
namespace LX
open PySem L2 PyProof.Rows
def chs (l : List Nat) : List D := l.map fun c => .str [c]
theorem strs_chs : ∀ l : List Nat, strsL (chs l) = some (l.map fun c => [c])
  | [] => rfl
  | c :: l => by
    show (strsL (chs l)).map (fun r => [c] :: r) = _
    rw [strs_chs l]
    rfl
theorem join_sing : ∀ l : List Nat, joinS [] (l.map fun c => [c]) = l
  | [] => rfl
  | [c] => rfl
  | c :: d :: l => by
    show [c] ++ ([] ++ joinS [] ((d :: l).map fun c => [c])) = c :: d :: l
    rw [join_sing (d :: l)]
    rfl
theorem sum_sing : ∀ l : List Nat, ((l.map fun c => [c]).map List.length).sum = l.length
  | [] => rfl
  | c :: l => by
    show 1 + ((l.map fun c => [c]).map List.length).sum = l.length + 1
    rw [sum_sing l]
    omega
theorem join_of {M : MH} {x : D} {l : List Nat} (h : seqOf M x = some (chs l)) (hl : l.length ≤ lim) : methD M .join (.str []) [x] = .ok (.str l) M := by
  have e : methD M .join (.str []) [x] = (ofO ((seqOf M x).bind strsL) M).bind fun l M => if (l.map List.length).sum + l.length * ([] : List Nat).length ≤ 16777216 then .ok (.str (joinS [] l)) M else .stuck := rfl
  rw [e, h, Option.bind_some, strs_chs]
  show (if ((l.map fun c => [c]).map List.length).sum + (l.map fun c => [c]).length * 0 ≤ 16777216 then Res.ok (D.str (joinS [] (l.map fun c => [c]))) M else .stuck) = _
  rw [sum_sing, join_sing, if_pos (by rw [Nat.mul_zero]; exact hl)]
theorem join_tl {M : MH} {l : List Nat} (hl : l.length ≤ lim) : methD M .join (.str []) [.tl (chs l)] = .ok (.str l) M := join_of rfl hl
theorem join_ref {M : MH} {n : Nat} {l : List Nat} (h : lstAt M n = some (chs l)) (hl : l.length ≤ lim) : methD M .join (.str []) [.ref n] = .ok (.str l) M := join_of h hl
theorem mul_str {m : Bool} {M : MH} {z : List Nat} {k : Nat} (h : k ≤ 1000000) (h2 : z.length * k ≤ lim) : binD m M .Mult (.str z) (.int k) = .ok (.str (List.replicate k z).flatten) M := by
  have e : binD m M .Mult (.str z) (.int k) = if decide (0 ≤ (k : Int)) && decide ((k : Int) ≤ 1000000) && decide (z.length * (k : Int).toNat ≤ lim) then .ok (.str (List.replicate (k : Int).toNat z).flatten) M else .stuck := rfl
  rw [e, Int.toNat_natCast, decide_eq_true (by omega), decide_eq_true (by omega), decide_eq_true h2]
  rfl
theorem rep_len (k : Nat) (z : List Nat) : (List.replicate k z).flatten.length = k * z.length := by simp
end LX
namespace LX
open PySem L2 PyProof.Rows
theorem endF_x {M M' : MH} {n k : Nat} {fs : Flds} {ρ : Env} (hd : D.undAll 0 (fs.map (·.2)) = true) (ht : M'.take n = M) (hM : Nr M) : endF true n (.exn k fs ρ M') = .exn k fs M := by
  have key : (D.undAll n (fs.map (·.2)) && MH.und n (M'.take n)) = true := by
    rw [ht, unds_mono (Nat.zero_le n) hd, hM.cl n]
    rfl
  show (if (D.undAll n (fs.map (·.2)) && MH.und n (M'.take n)) = true then Res.exn k fs (M'.take n) else .stuck) = _
  rw [if_pos key, ht]
theorem nr_take {M : MH} : M.take M.length = M := List.take_length
end LX
namespace LX
open PySem L2 PyProof.Rows
mutual
theorem same_refl : ∀ d : D, D.same d d = true
  | .non => rfl
  | .bl b => by show (b == b) = true; exact beq_self_eq_true b
  | .int i => by show (i == i) = true; exact beq_self_eq_true i
  | .str s => by show (s == s) = true; exact beq_self_eq_true s
  | .tup xs => sames_refl xs
  | .tl xs => sames_refl xs
  | .fl xs => sames_refl xs
  | .ref n => by show (n == n) = true; exact beq_self_eq_true n
  | .edic _ => decide_eq_true rfl
theorem sames_refl : ∀ ds : List D, D.sames ds ds = true
  | [] => rfl
  | d :: ds => by
    show (D.same d d && D.sames ds ds) = true
    rw [same_refl d, sames_refl ds]
    rfl
end
theorem stays_of {M : MH} {n : Nat} {xs : List D} (h : lstAt M n = some xs) : stays M xs (some n) = true := by
  show (match lstAt M n with
    | some ys => D.sames ys xs
    | none => false) = true
  rw [h]
  exact sames_refl xs
@[simp] theorem items_ref {M : MH} {n : Nat} : itemsD M (.ref n) = (lstAt M n).map fun xs => (xs, some n) := rfl
section
variable {P : Pg} {c : Cf} {g : G} {all : List D} {t : E}
/-- as lc_map, over a list that is written to elsewhere -/
theorem lc_mapC {e : E} {ρ : Env} (f : D → D) {chk : Option Nat} {l acc : List D} {M : MH} (hst : stays M all chk = true) (h : ∀ x ∈ l, ∃ ρ1, bindG g x ρ = some ρ1 ∧ (run P).e c e ρ1 M = .ok (f x) M) (hz : acc.length + l.length ≤ lim) :
    lcL (run P) c g all chk none e ρ l acc M = .ok (acc ++ l.map f) M := by
  induction l generalizing acc with
  | nil => unfold lcL; rw [if_pos hst]; simp
  | cons x l ih =>
    rw [List.length_cons] at hz
    obtain ⟨ρ1, e1, e2⟩ := h x List.mem_cons_self
    unfold lcL
    rw [if_pos hst, e1]
    simp [e2]
    rw [if_pos (by omega), ih (fun y hy => h y (List.mem_cons_of_mem _ hy)) (by simp; omega)]
    simp
end
theorem cutL_to {α : Type} {xs : List α} {k : Nat} (h : k ≤ xs.length) : cutL xs none (some (k : Int)) = xs.take k := by
  unfold cutL
  have e1 : HT.sIx xs.length 0 none = 0 := rfl
  have e2 : HT.sIx xs.length xs.length (some (k : Int)) = k := by
    show (if (k : Int) < 0 then ((k : Int) + (xs.length : Int)).toNat else min (k : Int).toNat xs.length) = k
    rw [if_neg (by omega), Int.toNat_natCast]
    omega
  rw [e1, e2, List.drop_zero, Nat.sub_zero]
@[simp] theorem cut_str' {m : Bool} {M : MH} {s : List Nat} {lo hi : Option Int} : cutD m M (.str s) lo hi = .ok (.str (cutL s lo hi)) M := rfl
@[simp] theorem cut_tup' {m : Bool} {M : MH} {xs : List D} {lo hi : Option Int} : cutD m M (.tup xs) lo hi = .ok (.tup (cutL xs lo hi)) M := rfl
@[simp] theorem cut_tl' {m : Bool} {M : MH} {xs : List D} {lo hi : Option Int} : cutD m M (.tl xs) lo hi = newL m (cutL xs lo hi) M := rfl
end LX

set_option Elab.async false
set_option linter.all false
set_option maxRecDepth 1000000
set_option maxHeartbeats 4000000
/-! LxPl: more for plain proofs: closed heaps, cells, slices, loops that end early. -/
namespace LX
open PySem L2 PyProof.Rows
theorem endF_vC {M M' : MH} {d : D} (hd : D.und 0 d = true) (ht : M'.take M.length = M) (hM : Cl M) : endF true M.length (.rt d M') = .ok d M := by
  have key : (D.und M.length d && MH.und M.length (M'.take M.length)) = true := by
    rw [ht, und_mono (Nat.zero_le _) hd]
    exact hM
  have fin : (if (D.und M.length d && MH.und M.length (M'.take M.length)) = true then Res.ok d (M'.take M.length) else .stuck) = .ok d M := by rw [if_pos key, ht]
  cases d with
  | ref k => cases hd
  | _ => exact fin
theorem endF_tlC {M M' : MH} {k : Nat} {xs : List D} (hk : ¬ k < M.length) (hl : lstAt M' k = some xs) (hx : D.undAll 0 xs = true) (ht : M'.take M.length = M) (hM : Cl M) : endF true M.length (.rt (.ref k) M') = .ok (.tl xs) M := by
  show freeze M.length (.ref k) M' = _
  unfold freeze
  dsimp only
  rw [if_neg hk, hl, ht]
  dsimp only
  rw [unds_mono (Nat.zero_le _) hx, show MH.und M.length M = true from hM]
  rfl
theorem endF_xC {M M' : MH} {k : Nat} {fs : Flds} {ρ : Env} (hd : D.undAll 0 (fs.map (·.2)) = true) (ht : M'.take M.length = M) (hM : Cl M) : endF true M.length (.exn k fs ρ M') = .exn k fs M := by
  have key : (D.undAll M.length (fs.map (·.2)) && MH.und M.length (M'.take M.length)) = true := by
    rw [ht, unds_mono (Nat.zero_le _) hd]
    exact hM
  show (if (D.undAll M.length (fs.map (·.2)) && MH.und M.length (M'.take M.length)) = true then Res.exn k fs (M'.take M.length) else .stuck) = _
  rw [if_pos key, ht]
theorem atI_last {α : Type} {xs : List α} {x : α} : L2.atI (xs ++ [x]) (-1) = some x := by
  unfold L2.atI L2.ixN
  rw [if_neg (by omega), if_pos (by simp; omega)]
  show (xs ++ [x])[(-1 + ((xs ++ [x]).length : Int)).toNat]? = some x
  rw [show (-1 + ((xs ++ [x]).length : Int)).toNat = xs.length by simp; omega]
  simp
theorem atI_1 {α : Type} {xs : List α} : L2.atI xs 1 = xs[1]? := atI_at (i := 1)
theorem atI_2 {α : Type} {xs : List α} : L2.atI xs 2 = xs[2]? := atI_at (i := 2)
theorem ixN_0 {n : Nat} : L2.ixN (n + 1) 0 = some 0 := ixN_at (i := 0) (by omega)
theorem ixN_1 {n : Nat} : L2.ixN (n + 2) 1 = some 1 := ixN_at (i := 1) (by omega)
theorem ixN_2 {n : Nat} : L2.ixN (n + 3) 2 = some 2 := ixN_at (i := 2) (by omega)
theorem ixN_last {n : Nat} : L2.ixN (n + 1) (-1) = some n := by
  unfold L2.ixN
  rw [if_neg (by omega), if_pos (by omega)]
  exact congrArg some (by omega)
end LX
namespace LX
open PySem L2 PyProof.Rows
theorem und_up {n m : Nat} {M : MH} (h : n ≤ m) (q : MH.und n M = true) : MH.und m M = true := List.all_eq_true.mpr fun o ho => mo_mono h (List.all_eq_true.mp q o ho)
theorem cl_snoc {M : MH} {xs : List D} (h : Cl M) (hx : D.undAll 0 xs = true) : Cl (M ++ [.lst xs]) := by
  refine List.all_eq_true.mpr fun o ho => ?_
  rcases List.mem_append.mp ho with ho | ho
  · exact mo_mono (by simp) (List.all_eq_true.mp h o ho)
  · rw [List.mem_singleton.mp ho]
    exact unds_mono (Nat.zero_le _) hx
theorem cl_set {M : MH} {r : Nat} {xs : List D} (h : Cl M) (hx : D.undAll 0 xs = true) : Cl (M.set r (.lst xs)) := by
  refine List.all_eq_true.mpr fun o ho => ?_
  rw [List.length_set]
  rcases List.mem_or_eq_of_mem_set ho with ho | rfl
  · exact List.all_eq_true.mp h o ho
  · exact unds_mono (Nat.zero_le _) hx
theorem lst_lt {M : MH} {r : Nat} {xs : List D} (h : lstAt M r = some xs) : r < M.length := by
  by_cases q : r < M.length
  · exact q
  · unfold lstAt at h
    rw [List.getElem?_eq_none (by omega)] at h
    cases h
theorem lst_set {M : MH} {r : Nat} {xs : List D} (h : r < M.length) : lstAt (M.set r (.lst xs)) r = some xs := by
  unfold lstAt
  rw [List.getElem?_set_self h]
theorem lst_set_ne {M : MH} {r s : Nat} {m : MO} (h : r ≠ s) : lstAt (M.set r m) s = lstAt M s := by
  unfold lstAt
  rw [List.getElem?_set_ne h]
theorem lst_snoc {M : MH} {s : Nat} {m : MO} (h : s < M.length) : lstAt (M ++ [m]) s = lstAt M s := by
  unfold lstAt
  rw [List.getElem?_append_left h]
theorem take_set_ge {α : Type} {M : List α} {n r : Nat} {m : α} (h : n ≤ r) : (M.set r m).take n = M.take n := by
  apply List.ext_getElem?
  intro i
  rw [List.getElem?_take, List.getElem?_take]
  split
  · rw [List.getElem?_set_ne (by omega)]
  · rfl
theorem take_snoc_le {α : Type} {M : List α} {n : Nat} {m : α} (h : n ≤ M.length) : (M ++ [m]).take n = M.take n := by
  rw [List.take_append_of_le_length h]
theorem add_ref {m : Bool} {M : MH} {n : Nat} {x y : List D} (h : lstAt M n = some x) (hz : x.length + y.length ≤ lim) : binD m M .Add (.ref n) (.tl y) = newL m (x ++ y) M := by
  have e : binD m M .Add (.ref n) (.tl y) = (ofO (lstAt M n) M).bind fun x M => (ofO (tlOf M (.tl y)) M).bind fun y M => if x.length + y.length ≤ lim then newL m (x ++ y) M else .stuck := rfl
  rw [e, h]
  show (if x.length + y.length ≤ lim then newL m (x ++ y) M else .stuck) = _
  rw [if_pos hz]
theorem mul_tl {m : Bool} {M : MH} {x : List D} {k : Nat} (h : k ≤ 1000000) (h2 : x.length * k ≤ lim) : binD m M .Mult (.tl x) (.int k) = newL m (List.replicate k x).flatten M := by
  have e : binD m M .Mult (.tl x) (.int k) = if decide (0 ≤ (k : Int)) && decide ((k : Int) ≤ 1000000) && decide (x.length * (k : Int).toNat ≤ lim) then newL m (List.replicate (k : Int).toNat x).flatten M else .stuck := rfl
  rw [e, Int.toNat_natCast, decide_eq_true (by omega), decide_eq_true (by omega), decide_eq_true h2]
  rfl
end LX
namespace LX
open PySem L2 PyProof.Rows
section
variable {P : Pg} {c : Cf} {g : G} {all : List D} {t : E}
/-- a comprehension with a test, the heap left alone -/
theorem lc_fil {e : E} {ρ : Env} (f : D → D) (q : D → Bool) {l acc : List D} {M : MH} (h : ∀ x ∈ l, ∃ ρ1, bindG g x ρ = some ρ1 ∧ (run P).e c t ρ1 M = .ok (.bl (q x)) M ∧ (q x = true → (run P).e c e ρ1 M = .ok (f x) M)) (hz : acc.length + l.length ≤ lim) :
    lcL (run P) c g all none (some t) e ρ l acc M = .ok (acc ++ (l.filter q).map f) M := by
  induction l generalizing acc with
  | nil => unfold lcL; rw [if_pos (show stays M all none = true from rfl)]; simp
  | cons x l ih =>
    rw [List.length_cons] at hz
    obtain ⟨ρ1, e1, e2, e3⟩ := h x List.mem_cons_self
    unfold lcL
    rw [if_pos (show stays M all none = true from rfl), e1]
    by_cases hq : q x = true
    · rw [hq] at e2
      have e4 := e3 hq
      simp [e2, e4, hq]
      rw [if_pos (by omega), ih (fun y hy => h y (List.mem_cons_of_mem _ hy)) (by simp; omega)]
      simp
    · have hq : q x = false := by simpa using hq
      rw [hq] at e2
      simp [e2, hq]
      exact ih (fun y hy => h y (List.mem_cons_of_mem _ hy)) (by omega)
end
end LX
namespace LX
open PySem L2 PyProof.Rows
theorem cutL_from {α : Type} {xs : List α} {k : Nat} (h : k ≤ xs.length) : cutL xs (some (k : Int)) none = xs.drop k := by
  unfold cutL
  have e1 : HT.sIx xs.length 0 (some (k : Int)) = k := by
    show (if (k : Int) < 0 then ((k : Int) + (xs.length : Int)).toNat else min (k : Int).toNat xs.length) = k
    rw [if_neg (by omega), Int.toNat_natCast]
    omega
  have e2 : HT.sIx xs.length xs.length none = xs.length := rfl
  rw [e1, e2, List.take_of_length_le (by simp)]
theorem cutL_mid {α : Type} {xs : List α} {i k : Nat} (h : i + k ≤ xs.length) : cutL xs (some (i : Int)) (some ((i + k : Nat) : Int)) = (xs.drop i).take k := by
  unfold cutL
  have e1 : HT.sIx xs.length 0 (some (i : Int)) = i := by
    show (if (i : Int) < 0 then ((i : Int) + (xs.length : Int)).toNat else min (i : Int).toNat xs.length) = i
    rw [if_neg (by omega), Int.toNat_natCast]
    omega
  have e2 : HT.sIx xs.length xs.length (some ((i + k : Nat) : Int)) = i + k := by
    show (if ((i + k : Nat) : Int) < 0 then (((i + k : Nat) : Int) + (xs.length : Int)).toNat else min ((i + k : Nat) : Int).toNat xs.length) = i + k
    rw [if_neg (by omega), Int.toNat_natCast]
    omega
  rw [e1, e2, Nat.add_sub_cancel_left]
theorem pop1_ref {M : MH} {n i : Nat} {xs : List D} {d : D} (h : lstAt M n = some xs) (hi : xs[i]? = some d) (hz : i ≤ lim) : methD M .pop1 (.ref n) [.int i] = .ok d (M.set n (.lst (xs.eraseIdx i))) := by
  have e : methD M .pop1 (.ref n) [.int i] = (ofO (lstAt M n) M).bind fun xs M => (ofO (if fits i then L2.ixN xs.length i else none) M).bind fun k M => (ofO (xs[k]?) M).bind fun d M => .ok d (M.set n (.lst (xs.eraseIdx k))) := rfl
  rw [e, h, fits_nat hz]
  have hl := (List.getElem?_eq_some_iff.mp hi).1
  simp [ixN_at hl, hi]
theorem sorted_tl {m : Bool} {M : MH} {l : List Int} (h : l.length < 64) : fnD m M .sorted [.tl (l.map .int)] = newL m ((sortI l).map .int) M := by
  have hi : ∀ l : List Int, intsL (l.map .int) = some l := by
    intro l
    induction l with
    | nil => rfl
    | cons i l ih => show (intsL (l.map .int)).map _ = _; rw [ih]; rfl
  have e : fnD m M .sorted [.tl (l.map .int)] = (ofO ((tlOf M (.tl (l.map .int))).bind intsL) M).bind fun l M => if l.length < 64 then newL m ((sortI l).map .int) M else .stuck := rfl
  rw [e]
  show (ofO (intsL (l.map .int)) M).bind _ = _
  rw [hi]
  exact if_pos h
theorem insI_len (a : Int) : ∀ l, (insI a l).length = l.length + 1
  | [] => rfl
  | b :: r => by
    unfold insI
    split
    · rfl
    · simp [insI_len a r]
theorem sortI_len : ∀ l, (sortI l).length = l.length
  | [] => rfl
  | a :: r => by rw [sortI, insI_len, sortI_len r]; rfl
theorem ints_of : ∀ {xs : List D}, (∀ x ∈ xs, ∃ i, x = .int i) → ∃ l : List Int, xs = l.map .int
  | [], _ => ⟨[], rfl⟩
  | x :: xs, h => by
    obtain ⟨i, rfl⟩ := h x List.mem_cons_self
    obtain ⟨l, rfl⟩ := ints_of fun y hy => h y (List.mem_cons_of_mem _ hy)
    exact ⟨i :: l, rfl⟩
end LX
namespace LX
open PySem L2 PyProof.Rows
theorem mul_tupB {m : Bool} {M : MH} {x : List D} {k : Nat} (h : x.length * k ≤ 1000000) (hk : k ≤ 1000000) : binD m M .Mult (.tup x) (.int k) = .ok (.tup (List.replicate k x).flatten) M := by
  have e : binD m M .Mult (.tup x) (.int k) = if fits (k : Int) && (x.isEmpty || decide (x.length * (k : Int).toNat ≤ 1000000)) then .ok (.tup (List.replicate (k : Int).toNat x).flatten) M else .stuck := rfl
  have hf : fits (k : Int) = true := fits_nat (by have : lim = 16777216 := rfl; omega)
  rw [e, Int.toNat_natCast, hf, decide_eq_true h, Bool.or_true]
  rfl
theorem mul_tup {m : Bool} {M : MH} {x : List D} {k : Nat} (h : k ≤ 1000) (h2 : x.length ≤ 1000) : binD m M .Mult (.tup x) (.int k) = .ok (.tup (List.replicate k x).flatten) M := mul_tupB (Nat.mul_le_mul h2 h) (by omega)
end LX
namespace LX
open PySem L2 PyProof.Rows
theorem ext_tl {M : MH} {n : Nat} {ys : List D} : methD M .extend (.ref n) [.tl ys] = (ofO (lstAt M n) M).bind fun xs M => if xs.length + ys.length ≤ lim then .ok .non (M.set n (.lst (xs ++ ys))) else .stuck := rfl
section
variable {P : Pg} {c : Cf} {g : G} {all : List D} {b : List S} {t : E}
/-- a loop that runs to its end, or hands back on its way -/
theorem for_ex (I : Nat → LX.Env → MH → Prop) (Rt : D → MH → Prop) : ∀ {l : List D} {s : Nat} {ρ : LX.Env} {M : MH}, (∀ i x ρ M, l[i]? = some x → I (s + i) ρ M → ∃ ρ1, bindG g x ρ = some ρ1 ∧ ((∃ ρ2 M2, (run P).ss c b ρ1 M = .nx ρ2 M2 ∧ I (s + i + 1) ρ2 M2) ∨ ∃ d M2, (run P).ss c b ρ1 M = .rt d M2 ∧ Rt d M2)) → I s ρ M →
    (∃ ρ' M', forL (run P) c g all none b l ρ M = .nx ρ' M' ∧ I (s + l.length) ρ' M') ∨ ∃ d M', forL (run P) c g all none b l ρ M = .rt d M' ∧ Rt d M'
  | [], s, ρ, M, _, h => .inl ⟨ρ, M, by unfold forL; rfl, h⟩
  | x :: l, s, ρ, M, hs, h => by
    obtain ⟨ρ1, e1, h2⟩ := hs 0 x ρ M rfl h
    have unf : forL (run P) c g all none b (x :: l) ρ M = match (run P).ss c b ρ1 M with
        | .nx ρ M => forL (run P) c g all none b l ρ M
        | .ct ρ M => forL (run P) c g all none b l ρ M
        | .bk ρ M => .nx ρ M
        | r => r := by
      conv => lhs; unfold forL
      rw [if_pos (show stays M all none = true from rfl), e1]
      all_goals rfl
    rcases h2 with ⟨ρ2, M2, e2, h2⟩ | ⟨d, M2, e2, h2⟩
    · have ih := for_ex I Rt (l := l) (s := s + 1) (ρ := ρ2) (M := M2) (fun i y ρ M e q => by
        have z := hs (i + 1) y ρ M (by simpa using e) (by rw [show s + (i + 1) = s + 1 + i by omega]; exact q)
        rw [show s + (i + 1) + 1 = s + 1 + i + 1 by omega] at z
        exact z) h2
      rw [unf, e2, List.length_cons, show s + (l.length + 1) = s + 1 + l.length by omega]
      exact ih
    · exact .inr ⟨d, M2, by rw [unf, e2], h2⟩
end
end LX
namespace LX
open PySem L2 PyProof.Rows
section
variable {P : Pg} {c : Cf} {g : G} {all : List D} {b : List S}
/-- one turn of a loop over what is not written -/
theorem for_step {x : D} {l : List D} {ρ ρ1 : LX.Env} {M : MH} (e1 : bindG g x ρ = some ρ1) : forL (run P) c g all none b (x :: l) ρ M = match (run P).ss c b ρ1 M with
    | .nx ρ M => forL (run P) c g all none b l ρ M
    | .ct ρ M => forL (run P) c g all none b l ρ M
    | .bk ρ M => .nx ρ M
    | r => r := by
  conv => lhs; unfold forL
  rw [if_pos (show stays M all none = true from rfl), e1]
  all_goals rfl
theorem for_end {ρ : LX.Env} {M : MH} : forL (run P) c g all none b [] ρ M = .nx ρ M := by unfold forL; rfl
end
theorem rngL_succ (i : Int) (n : Nat) : rngL i (n + 1) = .int i :: rngL (i + 1) n := by
  unfold rngL
  rw [List.range_succ_eq_map, List.map_cons, List.map_map]
  congr 1
  · simp
  · refine List.map_congr_left fun k _ => ?_
    show D.int (i + ((k + 1 : Nat) : Int)) = D.int (i + 1 + (k : Int))
    congr 1
    omega
theorem endF_nxC {M M' : MH} {ρ : LX.Env} (ht : M'.take M.length = M) (hM : Cl M) : endF true M.length (.nx ρ M') = .ok .non M := endF_vC (d := .non) rfl ht hM
end LX

set_option Elab.async false
set_option linter.all false
set_option maxRecDepth 1000000
set_option maxHeartbeats 4000000
namespace LK
open PySem L2 LX PyProof.Rows
def n_0 : List Str := ["word", "signs", "sign"]
def f_0 : Fn := ⟨2, 3, [.for (.one 2) (.var 0) [.ite (.cmp .NotIn (.var 2) (.var 1)) [.ret (.con (.bl false))] []], .ret (.con (.bl true))], true⟩
def n_1 : List Str := ["word"]
def f_1 : Fn := ⟨1, 1, [.ite (.or (.not (.chain .LtE .LtE (.con (.int 1)) (.fn false .len [.var 0]) (.con (.int 6)))) (.not (.truth (.call 0 [.var 0, .con (.str [48, 49, 50, 51, 52, 53, 54, 55, 56, 57])])))) [.ret (.con .non)] [], .ite (.and (.cmp .Gt (.fn false .len [.var 0]) (.con (.int 1))) (.cmp .Eq (.ix (.var 0) (.con (.int 0))) (.con (.str [48])))) [.ret (.con .non)] [], .ret (.fn false .int [.var 0])], true⟩
def n_2 : List Str := ["thing"]
def f_2 : Fn := ⟨1, 1, [.ret (.and (.isi [.str] (.var 0)) (.cmp .In (.var 0) (.con (.tup [(.str [108, 101, 116]), (.str [119, 101, 97, 118, 101]), (.str [109, 105, 114, 114, 111, 114]), (.str [117, 112, 115, 105, 100, 101]), (.str [115, 119, 97, 112]), (.str [101, 97, 99, 104]), (.str [98, 101, 115, 105, 100, 101]), (.str [98, 101, 108, 111, 119]), (.str [105, 102]), (.str [116, 104, 101, 110]), (.str [101, 108, 115, 101]), (.str [101, 110, 100])]))))], true⟩
def n_3 : List Str := ["thing"]
def f_3 : Fn := ⟨1, 1, [.ite (.or (.not (.isi [.str] (.var 0))) (.or (.not (.chain .LtE .LtE (.con (.int 1)) (.fn false .len [.var 0]) (.con (.int 8)))) (.cmp .In (.var 0) (.con (.tup [(.str [108, 101, 116]), (.str [119, 101, 97, 118, 101]), (.str [109, 105, 114, 114, 111, 114]), (.str [117, 112, 115, 105, 100, 101]), (.str [115, 119, 97, 112]), (.str [101, 97, 99, 104]), (.str [98, 101, 115, 105, 100, 101]), (.str [98, 101, 108, 111, 119]), (.str [105, 102]), (.str [116, 104, 101, 110]), (.str [101, 108, 115, 101]), (.str [101, 110, 100])]))))) [.ret (.con (.bl false))] [], .ret (.and (.cmp .In (.ix (.var 0) (.con (.int 0))) (.con (.str [97, 98, 99, 100, 101, 102, 103, 104, 105, 106, 107, 108, 109, 110, 111, 112, 113, 114, 115, 116, 117, 118, 119, 120, 121, 122]))) (.call 0 [.var 0, .bin false .Add (.con (.str [97, 98, 99, 100, 101, 102, 103, 104, 105, 106, 107, 108, 109, 110, 111, 112, 113, 114, 115, 116, 117, 118, 119, 120, 121, 122])) (.con (.str [48, 49, 50, 51, 52, 53, 54, 55, 56, 57]))]))], true⟩
def n_4 : List Str := ["sign"]
def f_4 : Fn := ⟨1, 1, [.ite (.cmp .In (.var 0) (.con (.str [97, 98, 99, 100, 101, 102, 103, 104, 105, 106, 107, 108, 109, 110, 111, 112, 113, 114, 115, 116, 117, 118, 119, 120, 121, 122]))) [.ret (.bin false .Add (.con (.str [97, 98, 99, 100, 101, 102, 103, 104, 105, 106, 107, 108, 109, 110, 111, 112, 113, 114, 115, 116, 117, 118, 119, 120, 121, 122])) (.con (.str [48, 49, 50, 51, 52, 53, 54, 55, 56, 57])))] [], .ite (.cmp .In (.var 0) (.con (.str [48, 49, 50, 51, 52, 53, 54, 55, 56, 57]))) [.ret (.con (.str [48, 49, 50, 51, 52, 53, 54, 55, 56, 57]))] [], .ret (.ite (.cmp .In (.var 0) (.con (.str [65, 66, 67, 68, 69, 70, 71, 72, 73, 74, 75, 76, 77, 78, 79, 80, 81, 82, 83, 84, 85, 86, 87, 88, 89, 90]))) (.con (.str [65, 66, 67, 68, 69, 70, 71, 72, 73, 74, 75, 76, 77, 78, 79, 80, 81, 82, 83, 84, 85, 86, 87, 88, 89, 90])) (.con (.str [])))], true⟩
def n_5 : List Str := ["text", "at", "signs", "end"]
def f_5 : Fn := ⟨2, 4, [.set 2 (.call 4 [.ix (.var 0) (.var 1)]), .set 3 (.bin false .Add (.var 1) (.con (.int 1))), .wh (.and (.cmp .Lt (.var 3) (.fn false .len [.var 0])) (.cmp .In (.ix (.var 0) (.var 3)) (.var 2))) [.aug 3 .Add (.con (.int 1))], .ret (.var 3)], true⟩
def n_6 : List Str := ["row", "line"]
def f_6 : Fn := ⟨2, 2, [.ite (.cmp .In (.ix (.var 0) (.con (.int 0))) (.con (.str [97, 98, 99, 100, 101, 102, 103, 104, 105, 106, 107, 108, 109, 110, 111, 112, 113, 114, 115, 116, 117, 118, 119, 120, 121, 122]))) [.ite (.cmp .Gt (.fn false .len [.var 0]) (.con (.int 8))) [.raise 0 [.var 1, .con (.str [108, 111, 110, 103])]] [], .ret (.ite (.cmp .In (.var 0) (.con (.tup [(.str [108, 101, 116]), (.str [119, 101, 97, 118, 101]), (.str [109, 105, 114, 114, 111, 114]), (.str [117, 112, 115, 105, 100, 101]), (.str [115, 119, 97, 112]), (.str [101, 97, 99, 104]), (.str [98, 101, 115, 105, 100, 101]), (.str [98, 101, 108, 111, 119]), (.str [105, 102]), (.str [116, 104, 101, 110]), (.str [101, 108, 115, 101]), (.str [101, 110, 100])]))) (.con (.str [107, 101, 112, 116])) (.con (.str [110, 97, 109, 101])))] [], .ite (.cmp .In (.ix (.var 0) (.con (.int 0))) (.con (.str [48, 49, 50, 51, 52, 53, 54, 55, 56, 57]))) [.ite (.cmp .Gt (.fn false .len [.var 0]) (.con (.int 6))) [.raise 0 [.var 1, .con (.str [108, 111, 110, 103])]] [], .ite (.cmp .Is (.call 1 [.var 0]) (.con .non)) [.raise 0 [.var 1, .con (.str [110, 117, 109, 98, 101, 114])]] [], .ret (.con (.str [110, 117, 109, 98, 101, 114]))] [], .ite (.cmp .Gt (.fn false .len [.var 0]) (.con (.int 24))) [.raise 0 [.var 1, .con (.str [108, 111, 110, 103])]] [], .ret (.con (.str [99, 111, 108, 111, 117, 114, 115]))], true⟩
def n_7 : List Str := ["text", "at"]
def f_7 : Fn := ⟨2, 2, [.wh (.and (.cmp .Lt (.var 1) (.fn false .len [.var 0])) (.cmp .NotEq (.ix (.var 0) (.var 1)) (.con (.str [10])))) [.aug 1 .Add (.con (.int 1))], .ret (.var 1)], true⟩
def n_8 : List Str := ["text", "found", "at", "line", "sign", "end"]
def f_8 : Fn := ⟨1, 6, [.set 1 (.lst true []), .set 2 (.con (.int 0)), .set 3 (.con (.int 1)), .wh (.cmp .Lt (.var 2) (.fn false .len [.var 0])) [.set 4 (.ix (.var 0) (.var 2)), .ite (.cmp .Eq (.var 4) (.con (.str [10]))) [.aug 3 .Add (.con (.int 1)), .aug 2 .Add (.con (.int 1))] [.ite (.cmp .Eq (.var 4) (.con (.str [32]))) [.aug 2 .Add (.con (.int 1))] [.ite (.cmp .Eq (.var 4) (.con (.str [35]))) [.set 2 (.call 7 [.var 0, .var 2])] [.ite (.cmp .In (.var 4) (.con (.str [40, 41, 44, 61, 43, 47, 42, 94, 45, 126, 60, 59]))) [.expr (.meth .append (.var 1) [.tup [.con (.str [115, 105, 103, 110]), .var 4, .var 3]]), .aug 2 .Add (.con (.int 1))] [.ite (.cmp .Eq (.call 4 [.var 4]) (.con (.str []))) [.raise 0 [.var 3, .con (.str [115, 105, 103, 110])]] [.set 5 (.call 5 [.var 0, .var 2]), .expr (.meth .append (.var 1) [.tup [.call 6 [.cut false (.var 0) (some (.var 2)) (some (.var 5)), .var 3], .cut false (.var 0) (some (.var 2)) (some (.var 5)), .var 3]]), .set 2 (.var 5)]]]]]], .ret (.fn false .tuple [.var 1])], true⟩
def n_9 : List Str := ["text", "kind", "word", "line"]
def f_9 : Fn := ⟨1, 4, [.ret (.fn false .tuple [.lc false [1, 2, 3] (.tup [1, 2, 3]) (.call 8 [.var 0]) none (.var 1)])], true⟩
def n_10 : List Str := ["text", "kind", "word", "line"]
def f_10 : Fn := ⟨1, 4, [.ret (.lc false [1, 2, 3] (.tup [1, 2, 3]) (.call 8 [.var 0]) none (.var 2))], true⟩
def n_11 : List Str := ["text"]
def f_11 : Fn := ⟨1, 1, [.ret (.meth .join (.con (.str [32])) [.call 10 [.var 0]])], true⟩
def n_12 : List Str := ["one", "other", "first"]
def f_12 : Fn := ⟨2, 3, [.set 2 (.call 10 [.var 0]), .ret (.cmp .Eq (.var 2) (.call 10 [.var 1]))], true⟩
def n_13 : List Str := ["script", "great", "number", "at", "cell"]
def f_13 : Fn := ⟨1, 5, [.set 1 (.lst true []), .set 2 (.con (.int 1009)), .for (.one 3) (.rng1 (.fn false .min2 [.fn false .len [.var 0], .con (.int 59)])) [.set 4 (.fn false .abs [.fn false .int [.ix (.var 0) (.var 3)]]), .set 2 (.bin false .Mod (.fn false .int [.bin false .Add (.bin false .Add (.bin false .Mult (.var 2) (.con (.int 48271))) (.bin false .Mult (.bin false .Mod (.var 4) (.con (.int 999863))) (.con (.int 79)))) (.bin false .Mult (.con (.int 59)) (.var 3))]) (.con (.int 2147483543))), .ite (.cmp .GtE (.var 4) (.bin false .Pow (.con (.int 10)) (.con (.int 18)))) [.expr (.meth .append (.var 1) [.bin false .Mod (.var 4) (.bin false .Mult (.bin false .Mult (.bin false .Mult (.bin false .Mult (.bin false .Pow (.con (.int 10)) (.con (.int 60))) (.bin false .Pow (.con (.int 10)) (.con (.int 60)))) (.bin false .Pow (.con (.int 10)) (.con (.int 60)))) (.bin false .Pow (.con (.int 10)) (.con (.int 60)))) (.bin false .Pow (.con (.int 10)) (.con (.int 60))))])] []], .ret (.lst true [.var 1, .bin false .Add (.var 2) (.con (.int 1))])], false⟩
def n_14 : List Str := ["vat", "many", "cell"]
def f_14 : Fn := ⟨2, 3, [.wh (.and (.cmp .Gt (.fn false .len [.ix (.var 0) (.con (.int 0))]) (.con (.int 0))) (.cmp .Eq (.ix (.ix (.var 0) (.con (.int 0))) (.con (.int 0))) (.con (.int 0)))) [.expr (.meth .pop1 (.ix (.var 0) (.con (.int 0))) [.con (.int 0)])], .ite (.cmp .Gt (.fn false .len [.ix (.var 0) (.con (.int 0))]) (.con (.int 0))) [.set 2 (.fn false .int [.ix (.ix (.var 0) (.con (.int 0))) (.con (.int 0))]), .put (.ix (.var 0) (.con (.int 0))) (.con (.int 0)) (.bin false .FloorDiv (.var 2) (.var 1)), .ret (.bin false .Mod (.var 2) (.var 1))] [], .put (.var 0) (.con (.int 1)) (.bin false .Mod (.fn false .int [.bin false .Add (.bin false .Mult (.ix (.var 0) (.con (.int 1))) (.con (.int 69621))) (.con (.int 227))]) (.con (.int 2147483543))), .ret (.bin false .Mod (.fn false .int [.bin false .FloorDiv (.ix (.var 0) (.con (.int 1))) (.con (.int 257))]) (.var 1))], true⟩
def n_15 : List Str := ["told", "due", "rest", "left", "right", "at"]
def f_15 : Fn := ⟨2, 6, [.set 2 (.lst true [.tup [.var 0, .var 1]]), .wh (.cmp .Gt (.fn false .len [.var 2]) (.con (.int 0))) [.unp [3, 4] (.meth .pop0 (.var 2) []), .ite (.isi [.tuple] (.var 4)) [.ite (.or (.not (.isi [.tuple] (.var 3))) (.cmp .NotEq (.fn false .len [.var 3]) (.fn false .len [.var 4]))) [.ret (.con (.bl false))] [], .set 2 (.bin true .Add (.var 2) (.lc false [5] (.one 5) (.rng1 (.fn false .len [.var 4])) none (.tup [.ix (.var 3) (.var 5), .ix (.var 4) (.var 5)])))] [.ite (.isi [.list] (.var 4)) [.ite (.or (.not (.isi [.list] (.var 3))) (.cmp .NotEq (.fn false .len [.var 3]) (.fn false .len [.var 4]))) [.ret (.con (.bl false))] [], .set 2 (.bin true .Add (.var 2) (.lc false [5] (.one 5) (.rng1 (.fn false .len [.var 4])) none (.tup [.ix (.var 3) (.var 5), .ix (.var 4) (.var 5)])))] [.ite (.cmp .Is (.var 4) (.con .non)) [.ite (.cmp .IsNot (.var 3) (.con .non)) [.ret (.con (.bl false))] []] [.ite (.isi [.bool] (.var 4)) [.ite (.or (.not (.isi [.bool] (.var 3))) (.cmp .NotEq (.var 3) (.var 4))) [.ret (.con (.bl false))] []] [.ite (.isi [.int] (.var 4)) [.ite (.or (.not (.isi [.int] (.var 3))) (.or (.isi [.bool] (.var 3)) (.cmp .NotEq (.var 3) (.var 4)))) [.ret (.con (.bl false))] []] [.ite (.or (.not (.isi [.str] (.var 4))) (.or (.not (.isi [.str] (.var 3))) (.cmp .NotEq (.var 3) (.var 4)))) [.ret (.con (.bl false))] []]]]]]], .ret (.con (.bl true))], true⟩
def n_16 : List Str := ["row"]
def f_16 : Fn := ⟨1, 1, [.ite (.cmp .In (.ix (.var 0) (.con (.int 0))) (.con (.str [48, 49, 50, 51, 52, 53, 54, 55, 56, 57]))) [.ret (.con (.str [110, 117, 109, 98, 101, 114]))] [], .ite (.cmp .In (.ix (.var 0) (.con (.int 0))) (.con (.str [65, 66, 67, 68, 69, 70, 71, 72, 73, 74, 75, 76, 77, 78, 79, 80, 81, 82, 83, 84, 85, 86, 87, 88, 89, 90]))) [.ret (.con (.str [99, 111, 108, 111, 117, 114, 115]))] [], .ret (.ite (.cmp .In (.var 0) (.tup [.con (.str [108, 101, 116]), .con (.str [119, 101, 97, 118, 101]), .con (.str [109, 105, 114, 114, 111, 114]), .con (.str [117, 112, 115, 105, 100, 101]), .con (.str [115, 119, 97, 112]), .con (.str [101, 97, 99, 104]), .con (.str [98, 101, 115, 105, 100, 101]), .con (.str [98, 101, 108, 111, 119]), .con (.str [105, 102]), .con (.str [116, 104, 101, 110]), .con (.str [101, 108, 115, 101]), .con (.str [101, 110, 100])])) (.con (.str [107, 101, 112, 116])) (.con (.str [110, 97, 109, 101])))], true⟩
def n_17 : List Str := ["text", "small", "found", "line", "at", "sign", "signs", "row", "kind"]
def f_17 : Fn := ⟨1, 9, [.set 1 (.con (.str [97, 98, 99, 100, 101, 102, 103, 104, 105, 106, 107, 108, 109, 110, 111, 112, 113, 114, 115, 116, 117, 118, 119, 120, 121, 122])), .set 2 (.lst true []), .set 3 (.con (.int 1)), .set 4 (.con (.int 0)), .wh (.cmp .Lt (.var 4) (.fn false .len [.var 0])) [.set 5 (.ix (.var 0) (.var 4)), .ite (.cmp .Eq (.var 5) (.con (.str [10]))) [.aug 3 .Add (.con (.int 1)), .aug 4 .Add (.con (.int 1))] [.ite (.cmp .Eq (.var 5) (.con (.str [32]))) [.aug 4 .Add (.con (.int 1))] [.ite (.cmp .Eq (.var 5) (.con (.str [35]))) [.wh (.and (.cmp .Lt (.var 4) (.fn false .len [.var 0])) (.cmp .NotEq (.ix (.var 0) (.var 4)) (.con (.str [10])))) [.aug 4 .Add (.con (.int 1))]] [.ite (.cmp .In (.var 5) (.con (.str [40, 41, 44, 61, 43, 47, 42, 94, 45, 126, 60, 59]))) [.expr (.meth .append (.var 2) [.tup [.con (.str [115, 105, 103, 110]), .var 5, .var 3]]), .aug 4 .Add (.con (.int 1))] [.set 6 (.ite (.cmp .In (.var 5) (.var 1)) (.bin false .Add (.var 1) (.con (.str [48, 49, 50, 51, 52, 53, 54, 55, 56, 57]))) (.ite (.cmp .In (.var 5) (.con (.str [48, 49, 50, 51, 52, 53, 54, 55, 56, 57]))) (.con (.str [48, 49, 50, 51, 52, 53, 54, 55, 56, 57])) (.con (.str [65, 66, 67, 68, 69, 70, 71, 72, 73, 74, 75, 76, 77, 78, 79, 80, 81, 82, 83, 84, 85, 86, 87, 88, 89, 90])))), .ite (.cmp .NotIn (.var 5) (.var 6)) [.ret (.tup [.con .non, .tup [.var 3, .con (.str [115, 105, 103, 110])]])] [], .set 7 (.con (.str [])), .wh (.and (.cmp .Lt (.var 4) (.fn false .len [.var 0])) (.cmp .In (.ix (.var 0) (.var 4)) (.var 6))) [.set 7 (.bin false .Add (.var 7) (.ix (.var 0) (.var 4))), .aug 4 .Add (.con (.int 1))], .set 8 (.call 16 [.var 7]), .ite (.cmp .Gt (.fn false .len [.var 7]) (.dix [([110, 97, 109, 101], (.int 8)), ([107, 101, 112, 116], (.int 8)), ([110, 117, 109, 98, 101, 114], (.int 6)), ([99, 111, 108, 111, 117, 114, 115], (.int 24))] (.var 8))) [.ret (.tup [.con .non, .tup [.var 3, .con (.str [108, 111, 110, 103])]])] [], .ite (.and (.cmp .Eq (.var 8) (.con (.str [110, 117, 109, 98, 101, 114]))) (.and (.cmp .Eq (.ix (.var 7) (.con (.int 0))) (.con (.str [48]))) (.cmp .NotEq (.var 7) (.con (.str [48]))))) [.ret (.tup [.con .non, .tup [.var 3, .con (.str [110, 117, 109, 98, 101, 114])]])] [], .expr (.meth .append (.var 2) [.tup [.var 8, .var 7, .var 3]])]]]]], .ret (.tup [.var 2, .con .non])], false⟩
def n_18 : List Str := ["vat", "way", "word"]
def f_18 : Fn := ⟨1, 3, [.set 1 (.call 14 [.var 0, .con (.int 8)]), .ite (.cmp .Lt (.var 1) (.con (.int 2))) [.set 2 (.ix (.lst false [.con (.str [97]), .con (.str [98, 49]), .con (.str [110]), .con (.str [122]), .con (.str [97, 98, 99, 100, 101, 102, 103, 104]), .con (.str [120, 50, 51, 52, 53, 54, 55, 56]), .con (.str [108, 101, 116, 49]), .con (.str [119, 101, 97, 118, 101, 114]), .con (.str [105, 102, 102]), .con (.str [101, 110]), .con (.str [101, 97, 99, 104, 101, 115]), .con (.str [122, 57]), .con (.str [113])]) (.call 14 [.var 0, .con (.int 13)])), .ret (.var 2)] [], .ite (.cmp .Eq (.var 1) (.con (.int 2))) [.ret (.ix (.lst false [.con (.str [108, 101, 116]), .con (.str [119, 101, 97, 118, 101]), .con (.str [109, 105, 114, 114, 111, 114]), .con (.str [117, 112, 115, 105, 100, 101]), .con (.str [115, 119, 97, 112]), .con (.str [101, 97, 99, 104]), .con (.str [98, 101, 115, 105, 100, 101]), .con (.str [98, 101, 108, 111, 119]), .con (.str [105, 102]), .con (.str [116, 104, 101, 110]), .con (.str [101, 108, 115, 101]), .con (.str [101, 110, 100])]) (.call 14 [.var 0, .con (.int 12)]))] [], .ite (.cmp .Eq (.var 1) (.con (.int 3))) [.ret (.ix (.lst false [.fn false .str [.call 14 [.var 0, .con (.int 30)]], .con (.str [48]), .con (.str [57, 57, 57, 57, 57, 57]), .con (.str [49, 48, 48, 48, 48, 48]), .con (.str [55])]) (.call 14 [.var 0, .con (.int 5)]))] [], .ite (.cmp .Eq (.var 1) (.con (.int 4))) [.ret (.ix (.lst false [.con (.str [65]), .con (.str [65, 66]), .con (.str [90, 89, 88]), .bin false .Mult (.con (.str [81])) (.con (.int 24)), .con (.str [65, 66, 67, 68, 69, 70, 71, 72, 73, 74, 75, 76, 77, 78, 79, 80, 81, 82, 83, 84, 85, 86, 87, 88]), .bin false .Mult (.con (.str [77])) (.bin false .Add (.con (.int 1)) (.call 14 [.var 0, .con (.int 24)]))]) (.call 14 [.var 0, .con (.int 6)]))] [], .ret (.ix (.con (.str [40, 41, 44, 61, 43, 47, 42, 94, 45, 126, 60, 59])) (.call 14 [.var 0, .con (.int 12)]))], true⟩
def n_19 : List Str := ["vat", "one", "other", "kinds", "alone", "word"]
def f_19 : Fn := ⟨3, 6, [.set 3 (.lc false [5] (.one 5) (.tup [.var 1, .var 2]) none (.ite (.cmp .In (.var 5) (.con (.str [40, 41, 44, 61, 43, 47, 42, 94, 45, 126, 60, 59]))) (.con (.str [115, 105, 103, 110])) (.call 16 [.var 5]))), .set 4 (.or (.cmp .In (.con (.str [115, 105, 103, 110])) (.var 3)) (.or (.cmp .NotEq (.cmp .Eq (.ix (.var 3) (.con (.int 0))) (.con (.str [99, 111, 108, 111, 117, 114, 115]))) (.cmp .Eq (.ix (.var 3) (.con (.int 1))) (.con (.str [99, 111, 108, 111, 117, 114, 115])))) (.and (.cmp .Eq (.ix (.var 3) (.con (.int 0))) (.con (.str [110, 117, 109, 98, 101, 114]))) (.cmp .NotEq (.ix (.var 3) (.con (.int 1))) (.con (.str [110, 117, 109, 98, 101, 114])))))), .ite (.and (.truth (.var 4)) (.cmp .Eq (.call 14 [.var 0, .con (.int 3)]) (.con (.int 0)))) [.ret (.con (.str []))] [], .ret (.ix (.lst false [.con (.str [32]), .con (.str [32]), .con (.str [32, 32]), .con (.str [10]), .con (.str [32, 10, 32]), .con (.str [10, 10]), .con (.str [32, 35, 32, 97, 32, 63, 32, 98, 10]), .con (.str [35, 10]), .con (.str [35, 32, 108, 101, 116, 32, 35, 35, 32, 48, 48, 55, 32, 65, 66, 10, 32])]) (.call 14 [.var 0, .con (.int 9)]))], true⟩
def n_20 : List Str := ["vat", "words", "text", "at", "part"]
def f_20 : Fn := ⟨2, 5, [.set 2 (.ix (.lst false [.con (.str []), .con (.str []), .con (.str [32]), .con (.str [10]), .con (.str [35, 32, 120, 10])]) (.call 14 [.var 0, .con (.int 5)])), .for (.one 3) (.rng1 (.fn false .len [.var 1])) [.set 4 (.ite (.cmp .Gt (.var 3) (.con (.int 0))) (.call 19 [.var 0, .ix (.var 1) (.bin false .Sub (.var 3) (.con (.int 1))), .ix (.var 1) (.var 3)]) (.con (.str []))), .set 2 (.bin false .Add (.bin false .Add (.var 2) (.ite (.cmp .Eq (.bin false .Mod (.fn false .int [.var 3]) (.con (.int 10))) (.con (.int 9))) (.con (.str [10])) (.var 4))) (.ix (.var 1) (.var 3)))], .ret (.bin false .Add (.var 2) (.ix (.lst false [.con (.str []), .con (.str []), .con (.str [32]), .con (.str [10]), .con (.str [35]), .con (.str [32, 35, 32, 101, 110, 100, 32, 10]), .con (.str [10, 10])]) (.call 14 [.var 0, .con (.int 7)])))], true⟩
def n_21 : List Str := ["which", "one", "other", "e"]
def f_21 : Fn := ⟨3, 4, [.try [.ite (.cmp .Eq (.var 0) (.con (.int 0))) [.ret (.tup [.con (.str [116, 111, 108, 100]), .call 8 [.var 1]])] [], .ite (.cmp .Eq (.var 0) (.con (.int 1))) [.ret (.tup [.con (.str [116, 111, 108, 100]), .call 9 [.var 1]])] [], .ret (.tup [.con (.str [116, 111, 108, 100]), .ite (.cmp .Eq (.var 0) (.con (.int 2))) (.call 11 [.var 1]) (.call 12 [.var 1, .var 2])])] [(1, some 3, [.ite (.or (.not (.xisi [0])) (.or (.not (.xisi [5])) (.xisi [3, 2, 4, 6]))) [.ret (.tup [.con (.str [111, 100, 100])])] [], .ret (.tup [.con (.str [116, 101, 120, 116]), .xat "line", .xat "word"])])]], true⟩
def n_22 : List Str := ["text", "others", "which", "other", "words", "fault", "due", "dues", "plain", "more", "wrong", "word"]
def f_22 : Fn := ⟨2, 12, [.unp [4, 5] (.call 17 [.var 0]), .ite (.cmp .IsNot (.var 5) (.con .non)) [.set 6 (.bin false .Add (.tup [.con (.str [116, 101, 120, 116])]) (.var 5)), .set 7 (.lst false [.var 6, .var 6, .var 6])] [.set 7 (.lst false [.tup [.con (.str [116, 111, 108, 100]), .fn false .tuple [.var 4]], .tup [.con (.str [116, 111, 108, 100]), .fn false .tuple [.lc false [11] (.one 11) (.var 4) none (.ix (.var 11) (.con (.int 0)))]], .tup [.con (.str [116, 111, 108, 100]), .meth .join (.con (.str [32])) [.lc false [11] (.one 11) (.var 4) none (.ix (.var 11) (.con (.int 1)))]]])], .for (.one 2) (.rng1 (.con (.int 3))) [.ite (.not (.truth (.call 15 [.call 21 [.var 2, .var 0, .con .non], .ix (.var 7) (.var 2)]))) [.ret (.con (.bl false))] []], .for (.one 3) (.var 1) [.unp [9, 10] (.call 17 [.var 3]), .set 6 (.ite (.cmp .IsNot (.var 5) (.con .non)) (.bin false .Add (.tup [.con (.str [116, 101, 120, 116])]) (.var 5)) (.ite (.cmp .IsNot (.var 10) (.con .non)) (.bin false .Add (.tup [.con (.str [116, 101, 120, 116])]) (.var 10)) (.con .non))), .ite (.cmp .Is (.var 6) (.con .non)) [.set 6 (.tup [.con (.str [116, 111, 108, 100]), .cmp .Eq (.lc false [11] (.one 11) (.var 4) none (.cut false (.var 11) none (some (.con (.int 2))))) (.lc false [11] (.one 11) (.var 9) none (.cut false (.var 11) none (some (.con (.int 2)))))])] [], .ite (.not (.truth (.call 15 [.call 21 [.con (.int 3), .var 0, .var 3], .var 6]))) [.ret (.con (.bl false))] []], .ite (.cmp .Is (.var 5) (.con .non)) [.set 8 (.meth .join (.con (.str [32])) [.lc false [11] (.one 11) (.var 4) none (.ix (.var 11) (.con (.int 1)))]), .ret (.call 15 [.call 21 [.con (.int 0), .var 8, .con .non], .tup [.con (.str [116, 111, 108, 100]), .fn false .tuple [.lc false [11] (.one 11) (.var 4) none (.bin false .Add (.cut false (.var 11) none (some (.con (.int 2)))) (.tup [.con (.int 1)]))]]])] [], .ret (.con (.bl true))], true⟩
def n_23 : List Str := ["vat", "words", "lap", "wrong", "at"]
def f_23 : Fn := ⟨2, 5, [.set 1 (.fn false .list [.var 1]), .for (.one 2) (.rng1 (.bin false .Add (.con (.int 1)) (.call 14 [.var 0, .con (.int 2)]))) [.set 3 (.lst false [.con (.str [33]), .con (.str [46]), .con (.str [95]), .con (.str [38]), .con (.str [97, 95, 98]), .con (.str [120, 46]), .con (.str [63, 65]), .con (.str [97, 98, 99, 100, 101, 102, 103, 104, 105]), .con (.str [108, 101, 116, 49, 50, 51, 52, 53, 54]), .bin false .Mult (.con (.str [97])) (.con (.int 9)), .con (.str [49, 50, 51, 52, 53, 54, 55]), .con (.str [48, 48, 48, 48, 48, 48, 48]), .bin false .Mult (.con (.str [81])) (.con (.int 25)), .con (.str [48, 48]), .con (.str [48, 49]), .con (.str [48, 48, 55]), .con (.str [48, 65]), .con (.str [39]), .con (.str [62]), .con (.str [58, 61]), .con (.str [123]), .bin false .Add (.bin false .Mult (.con (.str [66])) (.con (.int 24))) (.con (.str [99])), .con (.str [49, 50, 97]), .con (.str [97, 66]), .con (.str [36])]), .set 4 (.call 14 [.var 0, .bin false .Add (.fn false .len [.var 1]) (.con (.int 1))]), .set 1 (.bin false .Add (.bin false .Add (.cut false (.var 1) none (some (.var 4))) (.lst false [.ix (.var 3) (.call 14 [.var 0, .fn false .len [.var 3]])])) (.cut false (.var 1) (some (.bin false .Add (.var 4) (.call 14 [.var 0, .con (.int 2)]))) none))], .ret (.var 1)], true⟩
def n_24 : List Str := ["vat", "kept", "rows", "thing", "word", "name", "k", "sign"]
def f_24 : Fn := ⟨1, 8, [.set 1 (.lst false [.con (.str [108, 101, 116]), .con (.str [119, 101, 97, 118, 101]), .con (.str [109, 105, 114, 114, 111, 114]), .con (.str [117, 112, 115, 105, 100, 101]), .con (.str [115, 119, 97, 112]), .con (.str [101, 97, 99, 104]), .con (.str [98, 101, 115, 105, 100, 101]), .con (.str [98, 101, 108, 111, 119]), .con (.str [105, 102]), .con (.str [116, 104, 101, 110]), .con (.str [101, 108, 115, 101]), .con (.str [101, 110, 100])]), .set 2 (.lst false [.con (.str [97]), .con (.str [122, 57]), .con (.str [97, 98, 99, 100, 101, 102, 103, 104]), .con (.str [97, 98, 99, 100, 101, 102, 103, 104, 105]), .con (.str []), .con (.str [57, 97]), .con (.str [65]), .con (.str [97, 66]), .con (.str [97, 32, 98]), .con (.str [97, 95]), .con (.str [108, 101, 116, 115]), .con (.str [76, 101, 116]), .con (.str [108, 101, 116, 32]), .con (.str [101, 110]), .con (.str [97, 48, 49, 50, 51, 52, 53, 54]), .con (.str [97, 48, 49, 50, 51, 52, 53, 54, 55]), .con (.str [97, 98, 10]), .con (.str [10, 97]), .con (.str [48]), .con (.str [45, 97]), .con (.str [105, 102, 115]), .con (.str [101, 97, 99, 104, 115]), .con (.str [101]), .con (.str [101, 110, 100, 101, 110, 100]), .con (.str [97, 35])]), .for (.one 3) (.bin false .Add (.bin false .Add (.var 1) (.var 2)) (.lst false [.con .non, .con (.int 7), .con (.bl true), .tup [.con (.str [97])], .lst false [.con (.str [97])], .tup [.con (.str [108, 101, 116])], .bin false .Pow (.con (.int 10)) (.con (.int 59)), .tup []])) [.set 5 (.and (.isi [.str] (.var 3)) (.and (.chain .LtE .LtE (.con (.int 1)) (.fn false .len [.var 3]) (.con (.int 8))) (.and (.cmp .NotIn (.var 3) (.var 1)) (.cmp .In (.ix (.var 3) (.con (.int 0))) (.con (.str [97, 98, 99, 100, 101, 102, 103, 104, 105, 106, 107, 108, 109, 110, 111, 112, 113, 114, 115, 116, 117, 118, 119, 120, 121, 122])))))), .set 5 (.and (.var 5) (.cmp .Eq (.fn false .len [.lc false [7] (.one 7) (.var 3) (some (.cmp .NotIn (.var 7) (.con (.str [97, 98, 99, 100, 101, 102, 103, 104, 105, 106, 107, 108, 109, 110, 111, 112, 113, 114, 115, 116, 117, 118, 119, 120, 121, 122, 48, 49, 50, 51, 52, 53, 54, 55, 56, 57])))) (.var 7)]) (.con (.int 0)))), .ite (.not (.truth (.call 15 [.tup [.call 3 [.var 3], .call 2 [.var 3]], .tup [.var 5, .and (.isi [.str] (.var 3)) (.cmp .In (.var 3) (.var 1))]]))) [.ret (.con (.bl false))] []], .set 4 (.meth .join (.con (.str [])) [.lc false [6] (.one 6) (.rng1 (.call 14 [.var 0, .con (.int 11)])) none (.ix (.con (.str [97, 98, 122, 48, 57, 65, 90, 95, 32])) (.call 14 [.var 0, .con (.int 9)]))]), .set 5 (.and (.chain .LtE .LtE (.con (.int 1)) (.fn false .len [.var 4]) (.con (.int 8))) (.and (.cmp .In (.ix (.var 4) (.con (.int 0))) (.con (.str [97, 98, 122]))) (.cmp .Eq (.fn false .len [.lc false [7] (.one 7) (.var 4) (some (.cmp .NotIn (.var 7) (.con (.str [97, 98, 122, 48, 57])))) (.var 7)]) (.con (.int 0))))), .ret (.call 15 [.tup [.callk 3 1 [0] [.var 4], .callk 2 1 [0] [.var 4]], .tup [.var 5, .con (.bl false)]])], true⟩
def n_25 : List Str := ["rows", "wrong", "told", "text", "due", "line", "word"]
def f_25 : Fn := ⟨0, 7, [.set 0 (.lst false [.tup [.con (.str [119, 101, 97, 118, 101, 32, 65, 66, 32, 42, 32, 50]), .tup [.tup [.con (.str [107, 101, 112, 116]), .con (.str [119, 101, 97, 118, 101]), .con (.int 1)], .tup [.con (.str [99, 111, 108, 111, 117, 114, 115]), .con (.str [65, 66]), .con (.int 1)], .tup [.con (.str [115, 105, 103, 110]), .con (.str [42]), .con (.int 1)], .tup [.con (.str [110, 117, 109, 98, 101, 114]), .con (.str [50]), .con (.int 1)]]], .tup [.con (.str []), .tup []], .tup [.con (.str [10, 10, 32, 35, 32, 97, 10]), .tup []], .tup [.con (.str [50, 97, 98]), .tup [.tup [.con (.str [110, 117, 109, 98, 101, 114]), .con (.str [50]), .con (.int 1)], .tup [.con (.str [110, 97, 109, 101]), .con (.str [97, 98]), .con (.int 1)]]]]), .set 0 (.bin false .Add (.var 0) (.lst false [.tup [.con (.str [97, 66, 99]), .tup [.tup [.con (.str [110, 97, 109, 101]), .con (.str [97]), .con (.int 1)], .tup [.con (.str [99, 111, 108, 111, 117, 114, 115]), .con (.str [66]), .con (.int 1)], .tup [.con (.str [110, 97, 109, 101]), .con (.str [99]), .con (.int 1)]]], .tup [.con (.str [97, 10, 35, 98, 10, 45, 35, 99]), .tup [.tup [.con (.str [110, 97, 109, 101]), .con (.str [97]), .con (.int 1)], .tup [.con (.str [115, 105, 103, 110]), .con (.str [45]), .con (.int 3)]]]])), .for (.tup [3, 4]) (.var 0) [.ite (.not (.truth (.call 15 [.callk 8 1 [0] [.var 3], .var 4]))) [.ret (.con (.bl false))] []], .set 1 (.lst false [.tup [.con (.str [97, 10, 48, 48, 48, 48, 48, 48, 49]), .con (.int 2), .con (.str [108, 111, 110, 103])], .tup [.con (.str [97, 32, 48, 49, 32, 33]), .con (.int 1), .con (.str [110, 117, 109, 98, 101, 114])], .tup [.con (.str [35, 33, 10, 33, 48, 49]), .con (.int 2), .con (.str [115, 105, 103, 110])], .tup [.con (.str [65, 66, 67, 68, 69, 70, 71, 72, 73, 74, 75, 76, 77, 78, 79, 80, 81, 82, 83, 84, 85, 86, 87, 88, 89]), .con (.int 1), .con (.str [108, 111, 110, 103])], .tup [.con (.str [97, 98, 99, 100, 101, 102, 103, 104, 57]), .con (.int 1), .con (.str [108, 111, 110, 103])]]), .for (.tup [3, 5, 6]) (.var 1) [.ite (.not (.truth (.call 15 [.call 21 [.con (.int 0), .var 3, .con .non], .tup [.con (.str [116, 101, 120, 116]), .var 5, .var 6]]))) [.ret (.con (.bl false))] []], .set 2 (.tup [.callk 11 1 [0] [.con (.str [119, 101, 97, 118, 101, 32, 65, 66, 42, 50, 32, 35, 32, 116, 119, 105, 99, 101])], .callk 12 2 [0, 1] [.con (.str [97, 32, 98]), .con (.str [97, 10, 98, 32, 35, 32, 99])], .call 12 [.con (.str [97, 98]), .con (.str [97, 32, 98])], .callk 9 1 [0] [.con (.str [105, 102, 32, 120, 60, 57])]]), .ite (.not (.truth (.call 15 [.var 2, .tup [.con (.str [119, 101, 97, 118, 101, 32, 65, 66, 32, 42, 32, 50]), .con (.bl true), .con (.bl false), .tup [.con (.str [107, 101, 112, 116]), .con (.str [110, 97, 109, 101]), .con (.str [115, 105, 103, 110]), .con (.str [110, 117, 109, 98, 101, 114])]]]))) [.ret (.con (.bl false))] [], .ret (.call 15 [.tup [.call 21 [.con (.int 3), .con (.str [97, 32, 33]), .con (.str [48, 48])], .call 21 [.con (.int 3), .con (.str [97]), .con (.str [10, 48, 48])], .call 21 [.con (.int 3), .con (.str [97, 10, 10, 48, 48]), .con (.str [33])]], .tup [.tup [.con (.str [116, 101, 120, 116]), .con (.int 1), .con (.str [115, 105, 103, 110])], .tup [.con (.str [116, 101, 120, 116]), .con (.int 2), .con (.str [110, 117, 109, 98, 101, 114])], .tup [.con (.str [116, 101, 120, 116]), .con (.int 3), .con (.str [110, 117, 109, 98, 101, 114])]]])], true⟩
def n_26 : List Str := ["script", "vat", "lap", "words", "text", "at", "others", "turn", "k", "row"]
def f_26 : Fn := ⟨1, 10, [.set 1 (.call 13 [.var 0]), .ite (.or (.not (.truth (.call0 25))) (.not (.truth (.call 24 [.var 1])))) [.ret (.con (.bl false))] [], .for (.one 2) (.rng1 (.con (.int 3))) [.set 3 (.lc false [8] (.one 8) (.rng1 (.bin false .Mult (.call 14 [.var 1, .con (.int 14)]) (.bin false .Add (.con (.int 1)) (.call 14 [.var 1, .con (.int 3)])))) none (.call 18 [.var 1])), .set 4 (.call 20 [.var 1, .var 3]), .set 5 (.call 14 [.var 1, .bin false .Add (.fn false .len [.var 3]) (.con (.int 1))]), .set 6 (.lst false [.call 20 [.var 1, .var 3], .call 20 [.var 1, .bin false .Add (.bin false .Add (.cut false (.var 3) none (some (.var 5))) (.lst false [.call 18 [.var 1]])) (.cut false (.var 3) (some (.bin false .Add (.var 5) (.con (.int 1)))) none)], .call 20 [.var 1, .cut false (.var 3) (some (.con (.int 1))) none]]), .ite (.not (.truth (.call 22 [.var 4, .var 6]))) [.ret (.con (.bl false))] [], .for (.one 7) (.rng1 (.con (.int 2))) [.ite (.not (.truth (.call 22 [.call 20 [.var 1, .call 23 [.var 1, .var 3]], .lst false [.var 4, .call 20 [.var 1, .call 23 [.var 1, .var 3]]]]))) [.ret (.con (.bl false))] []], .ite (.not (.truth (.call 22 [.var 4, .lst false [.call 20 [.var 1, .call 23 [.var 1, .var 3]]]]))) [.ret (.con (.bl false))] []], .ite (.cmp .NotEq (.call 14 [.var 1, .con (.int 13)]) (.con (.int 9))) [.ret (.con (.bl true))] [], .set 3 (.lc false [8] (.one 8) (.rng1 (.con (.int 50))) none (.call 18 [.var 1])), .set 4 (.meth .join (.con (.str [10])) [.bin false .Add (.lc false [9] (.one 9) (.rng1 (.con (.int 166))) none (.meth .join (.con (.str [32])) [.lc false [8] (.one 8) (.rng1 (.con (.int 12))) none (.ix (.var 3) (.bin false .Mod (.fn false .int [.bin false .Add (.bin false .Mult (.var 9) (.con (.int 7))) (.var 8)]) (.con (.int 50))))])) (.lst false [.con (.str [97, 32, 98, 32, 99, 32, 100, 32, 101, 32, 102, 32, 103])])]), .ret (.and (.call 22 [.var 4, .lst false [.bin false .Add (.var 4) (.con (.str [10, 35])), .bin false .Add (.var 4) (.cut false (.con (.str [32, 59])) none (some (.con (.int 1))))]]) (.call 22 [.bin false .Add (.var 4) (.con (.str [33])), .lst false []]))], true⟩
def pg : Pg := ⟨[f_0, f_1, f_2, f_3, f_4, f_5, f_6, f_7, f_8, f_9, f_10, f_11, f_12, f_13, f_14, f_15, f_16, f_17, f_18, f_19, f_20, f_21, f_22, f_23, f_24, f_25, f_26], [⟨["line", "word"], [0, 5, 1]⟩, ⟨[], [1]⟩, ⟨[], [2, 1]⟩, ⟨[], [3, 1]⟩, ⟨[], [4, 1]⟩, ⟨[], [5, 1]⟩, ⟨[], [6, 1]⟩], 1, []⟩
def tb : Tb := { fns := ((["only_signs", "written_number", "is_kept", "is_name", "signs_of_row", "row_end", "kind_of_row", "comment_end", "words_of", "word_kinds", "bare_words", "plain_text", "has_same_words", "_law_vat", "_law_tap", "_law_same", "_law_kind", "_law_words", "_law_word", "_law_parting", "_law_joined", "_law_heard", "_law_asked", "_law_spoilt"] : List Str) ++ (["_law_names", "_law_by_hand", "law"] : List Str)), xcs := ["BadText", "LoomError", "DataError", "CallError", "RunError", "TextError", "ShopError"], cons := [("MOST_TABLETS", (.int 24)), ("MOST_NAME", (.int 8)), ("MOST_FIGURES", (.int 6)), ("FIGURES", (.str [48, 49, 50, 51, 52, 53, 54, 55, 56, 57])), ("SMALL", (.str [97, 98, 99, 100, 101, 102, 103, 104, 105, 106, 107, 108, 109, 110, 111, 112, 113, 114, 115, 116, 117, 118, 119, 120, 121, 122])), ("COLOURS", (.str [65, 66, 67, 68, 69, 70, 71, 72, 73, 74, 75, 76, 77, 78, 79, 80, 81, 82, 83, 84, 85, 86, 87, 88, 89, 90])), ("SIGNS", (.str [40, 41, 44, 61, 43, 47, 42, 94, 45, 126, 60, 59])), ("KEPT", (.tup [(.str [108, 101, 116]), (.str [119, 101, 97, 118, 101]), (.str [109, 105, 114, 114, 111, 114]), (.str [117, 112, 115, 105, 100, 101]), (.str [115, 119, 97, 112]), (.str [101, 97, 99, 104]), (.str [98, 101, 115, 105, 100, 101]), (.str [98, 101, 108, 111, 119]), (.str [105, 102]), (.str [116, 104, 101, 110]), (.str [101, 108, 115, 101]), (.str [101, 110, 100])]))], bls := ["abs", "bool", "int", "isinstance", "len", "list", "min", "range", "str", "tuple"], flds := ["line", "word"], ini := [0], qns := [], kbs := [(3, ["thing"], [0]), (2, ["thing"], [0]), (8, ["text"], [0]), (11, ["text"], [0]), (12, ["one", "other"], [0, 1]), (9, ["text"], [0])], tabs := [] }
def top (i : Nat) : Stmt := PySem.Challenge.pw_turnedtogether_k00_words_and_plain_texts.main.body.getD i (.Pass ⟨0, 0, 0, 0⟩)
abbrev s_0 : Stmt := top 13
abbrev s_1 : Stmt := top 14
abbrev s_2 : Stmt := top 20
abbrev s_3 : Stmt := top 21
abbrev s_4 : Stmt := top 22
abbrev s_5 : Stmt := top 23
abbrev s_6 : Stmt := top 24
abbrev s_7 : Stmt := top 25
abbrev s_8 : Stmt := top 26
abbrev s_9 : Stmt := top 27
abbrev s_10 : Stmt := top 29
abbrev s_11 : Stmt := top 30
abbrev s_12 : Stmt := top 31
abbrev s_13 : Stmt := top 33
abbrev s_14 : Stmt := top 34
abbrev s_15 : Stmt := top 35
abbrev s_16 : Stmt := top 36
abbrev s_17 : Stmt := top 37
abbrev s_18 : Stmt := top 38
abbrev s_19 : Stmt := top 39
abbrev s_20 : Stmt := top 40
abbrev s_21 : Stmt := top 41
abbrev s_22 : Stmt := top 42
abbrev s_23 : Stmt := top 43
abbrev s_24 : Stmt := top 44
abbrev s_25 : Stmt := top 45
abbrev s_26 : Stmt := top 46
abbrev i_0 : Stmt := inClass (top 10) 0
theorem chk_0 : chkSs tb 200 ⟨n_0, defScope s_0, defScope s_0, none, true⟩ (defBody s_0) f_0.body = true := by decide +kernel
theorem scp_0 : fscC n_0 ["word", "signs"] (defScope s_0) = true := by decide +kernel
theorem chk_1 : chkSs tb 200 ⟨n_1, defScope s_1, defScope s_1, none, true⟩ (defBody s_1) f_1.body = true := by decide +kernel
theorem scp_1 : fscC n_1 ["word"] (defScope s_1) = true := by decide +kernel
theorem chk_2 : chkSs tb 200 ⟨n_2, defScope s_2, defScope s_2, none, true⟩ (defBody s_2) f_2.body = true := by decide +kernel
theorem scp_2 : fscC n_2 ["thing"] (defScope s_2) = true := by decide +kernel
theorem chk_3 : chkSs tb 200 ⟨n_3, defScope s_3, defScope s_3, none, true⟩ (defBody s_3) f_3.body = true := by decide +kernel
theorem scp_3 : fscC n_3 ["thing"] (defScope s_3) = true := by decide +kernel
theorem chk_4 : chkSs tb 200 ⟨n_4, defScope s_4, defScope s_4, none, true⟩ (defBody s_4) f_4.body = true := by decide +kernel
theorem scp_4 : fscC n_4 ["sign"] (defScope s_4) = true := by decide +kernel
theorem chk_5 : chkSs tb 200 ⟨n_5, defScope s_5, defScope s_5, none, true⟩ (defBody s_5) f_5.body = true := by decide +kernel
theorem scp_5 : fscC n_5 ["text", "at"] (defScope s_5) = true := by decide +kernel
theorem chk_6 : chkSs tb 200 ⟨n_6, defScope s_6, defScope s_6, none, true⟩ (defBody s_6) f_6.body = true := by decide +kernel
theorem scp_6 : fscC n_6 ["row", "line"] (defScope s_6) = true := by decide +kernel
theorem chk_7 : chkSs tb 200 ⟨n_7, defScope s_7, defScope s_7, none, true⟩ (defBody s_7) f_7.body = true := by decide +kernel
theorem scp_7 : fscC n_7 ["text", "at"] (defScope s_7) = true := by decide +kernel
theorem chk_8 : chkSs tb 200 ⟨n_8, defScope s_8, defScope s_8, none, true⟩ (defBody s_8) f_8.body = true := by decide +kernel
theorem scp_8 : fscC n_8 ["text"] (defScope s_8) = true := by decide +kernel
theorem chk_9 : chkSs tb 200 ⟨n_9, defScope s_9, defScope s_9, none, true⟩ (defBody s_9) f_9.body = true := by decide +kernel
theorem scp_9 : fscC n_9 ["text"] (defScope s_9) = true := by decide +kernel
theorem chk_10 : chkSs tb 200 ⟨n_10, defScope s_10, defScope s_10, none, true⟩ (defBody s_10) f_10.body = true := by decide +kernel
theorem scp_10 : fscC n_10 ["text"] (defScope s_10) = true := by decide +kernel
theorem chk_11 : chkSs tb 200 ⟨n_11, defScope s_11, defScope s_11, none, true⟩ (defBody s_11) f_11.body = true := by decide +kernel
theorem scp_11 : fscC n_11 ["text"] (defScope s_11) = true := by decide +kernel
theorem chk_12 : chkSs tb 200 ⟨n_12, defScope s_12, defScope s_12, none, true⟩ (defBody s_12) f_12.body = true := by decide +kernel
theorem scp_12 : fscC n_12 ["one", "other"] (defScope s_12) = true := by decide +kernel
theorem chk_13 : chkSs tb 200 ⟨n_13, defScope s_13, defScope s_13, none, true⟩ (defBody s_13) f_13.body = true := by decide +kernel
theorem scp_13 : fscC n_13 ["script"] (defScope s_13) = true := by decide +kernel
theorem chk_14 : chkSs tb 200 ⟨n_14, defScope s_14, defScope s_14, none, true⟩ (defBody s_14) f_14.body = true := by decide +kernel
theorem scp_14 : fscC n_14 ["vat", "many"] (defScope s_14) = true := by decide +kernel
theorem chk_15 : chkSs tb 200 ⟨n_15, defScope s_15, defScope s_15, none, true⟩ (defBody s_15) f_15.body = true := by decide +kernel
theorem scp_15 : fscC n_15 ["told", "due"] (defScope s_15) = true := by decide +kernel
theorem chk_16 : chkSs tb 200 ⟨n_16, defScope s_16, defScope s_16, none, true⟩ (defBody s_16) f_16.body = true := by decide +kernel
theorem scp_16 : fscC n_16 ["row"] (defScope s_16) = true := by decide +kernel
theorem chk_17 : chkSs tb 200 ⟨n_17, defScope s_17, defScope s_17, none, true⟩ (defBody s_17) f_17.body = true := by decide +kernel
theorem scp_17 : fscC n_17 ["text"] (defScope s_17) = true := by decide +kernel
theorem chk_18 : chkSs tb 200 ⟨n_18, defScope s_18, defScope s_18, none, true⟩ (defBody s_18) f_18.body = true := by decide +kernel
theorem scp_18 : fscC n_18 ["vat"] (defScope s_18) = true := by decide +kernel
theorem chk_19 : chkSs tb 200 ⟨n_19, defScope s_19, defScope s_19, none, true⟩ (defBody s_19) f_19.body = true := by decide +kernel
theorem scp_19 : fscC n_19 ["vat", "one", "other"] (defScope s_19) = true := by decide +kernel
theorem chk_20 : chkSs tb 200 ⟨n_20, defScope s_20, defScope s_20, none, true⟩ (defBody s_20) f_20.body = true := by decide +kernel
theorem scp_20 : fscC n_20 ["vat", "words"] (defScope s_20) = true := by decide +kernel
theorem chk_21 : chkSs tb 200 ⟨n_21, defScope s_21, defScope s_21, none, true⟩ (defBody s_21) f_21.body = true := by decide +kernel
theorem scp_21 : fscC n_21 ["which", "one", "other"] (defScope s_21) = true := by decide +kernel
theorem chk_22 : chkSs tb 200 ⟨n_22, defScope s_22, defScope s_22, none, true⟩ (defBody s_22) f_22.body = true := by decide +kernel
theorem scp_22 : fscC n_22 ["text", "others"] (defScope s_22) = true := by decide +kernel
theorem chk_23 : chkSs tb 200 ⟨n_23, defScope s_23, defScope s_23, none, true⟩ (defBody s_23) f_23.body = true := by decide +kernel
theorem scp_23 : fscC n_23 ["vat", "words"] (defScope s_23) = true := by decide +kernel
theorem chk_24 : chkSs tb 200 ⟨n_24, defScope s_24, defScope s_24, none, true⟩ (defBody s_24) f_24.body = true := by decide +kernel
theorem scp_24 : fscC n_24 ["vat"] (defScope s_24) = true := by decide +kernel
theorem chk_25 : chkSs tb 200 ⟨n_25, defScope s_25, defScope s_25, none, true⟩ (defBody s_25) f_25.body = true := by decide +kernel
theorem scp_25 : fscC n_25 [] (defScope s_25) = true := by decide +kernel
theorem chk_26 : chkSs tb 200 ⟨n_26, defScope s_26, defScope s_26, none, true⟩ (defBody s_26) f_26.body = true := by decide +kernel
theorem scp_26 : fscC n_26 ["script"] (defScope s_26) = true := by decide +kernel
theorem ixc_0 : initC ["self", "line", "word"] (defScope i_0) 1 ["line", "word"] (defBody i_0) = true := by decide +kernel
theorem isc_0 : fscC ["self", "line", "word"] ["self", "line", "word"] (defScope i_0) = true := by decide +kernel
end LK
set_option Elab.async false
set_option linter.all false
set_option maxRecDepth 1000000
set_option maxHeartbeats 4000000
namespace LK
open PySem L2 LX PyProof.Rows
noncomputable abbrev R : LX.Sys := run pg
theorem ss_app {c : Cf} : ∀ (xs ys : List S) (ρ : LX.Env) (M : MH), R.ss c (xs ++ ys) ρ M = (R.ss c xs ρ M).sbind fun ρ M => R.ss c ys ρ M
  | [], ys, ρ, M => by rw [ss_nil']; rfl
  | x :: xs, ys, ρ, M => by
    rw [List.cons_append, ss_cons', ss_cons']
    cases (run pg).s c x ρ M with
    | nx ρ M => exact ss_app xs ys ρ M
    | _ => rfl
/-- the vat: great numbers, a stirred one; more cells -/
def V (gs : List Int) (n : Int) (N : MH) : MH := .lst (gs.map .int) :: .lst [.ref 0, .int n] :: N
theorem V_len {gs : List Int} {n : Int} {N : MH} : (V gs n N).length = N.length + 2 := rfl
theorem und_ints (k : Nat) (gs : List Int) : D.undAll k (gs.map D.int) = true := unds_of fun d h => by
  obtain ⟨r, _, rfl⟩ := List.mem_map.mp h
  rfl
theorem V_und {gs : List Int} {n : Int} {N : MH} {k : Nat} (h : Nr N) (hk : 0 < k) : MH.und k (V gs n N) = true := by
  refine List.all_eq_true.mpr fun o ho => ?_
  rcases List.mem_cons.mp ho with rfl | ho
  · exact und_ints k gs
  · rcases List.mem_cons.mp ho with rfl | ho
    · show (decide (0 < k) && (true && true)) = true
      rw [decide_eq_true hk]
      rfl
    · exact mo_mono (Nat.zero_le k) (h o ho)
theorem V_cl {gs : List Int} {n : Int} {N : MH} (h : Nr N) : Cl (V gs n N) := V_und h (Nat.succ_pos _)
theorem V0 {gs : List Int} {n : Int} {N : MH} : lstAt (V gs n N) 0 = some (gs.map .int) := rfl
theorem V1 {gs : List Int} {n : Int} {N : MH} : lstAt (V gs n N) 1 = some [.ref 0, .int n] := rfl
theorem V_set0 {gs : List Int} {n : Int} {N : MH} {m : MO} : (V gs n N).set 0 m = m :: .lst [.ref 0, .int n] :: N := rfl
def t14 : E := .and (.cmp .Gt (.fn false .len [.ix (.var 0) (.con (.int 0))]) (.con (.int 0))) (.cmp .Eq (.ix (.ix (.var 0) (.con (.int 0))) (.con (.int 0))) (.con (.int 0)))
def b14 : List S := [.expr (.meth .pop1 (.ix (.var 0) (.con (.int 0))) [.con (.int 0)])]
theorem tapW {c : Cf} {n m : Int} {N : MH} : ∀ gs : List Int, ∃ gs', R.s c (.wh t14 b14) [some (.ref 1), some (.int m), none] (V gs n N) = .nx [some (.ref 1), some (.int m), none] (V gs' n N) ∧ (gs' = [] ∨ ∃ g r, gs' = g :: r ∧ g ≠ 0)
  | [] => by
    refine ⟨[], ?_, .inl rfl⟩
    rw [st_wh]
    simp -implicitDefEqProofs [t14, V0, V1, atI_0]
  | g :: r => by
    by_cases h : g = 0
    · subst h
      obtain ⟨gs', e, q⟩ := tapW (c := c) (n := n) (m := m) (N := N) r
      refine ⟨gs', ?_, q⟩
      have p : (0 : Int) < (r.length : Int) + 1 := by omega
      have ht : R.e c t14 [some (.ref 1), some (.int m), none] (V (0 :: r) n N) = .ok (.bl true) (V (0 :: r) n N) := by
        simp -implicitDefEqProofs [t14, V0, V1, atI_0, p]
      have hb : R.ss c b14 [some (.ref 1), some (.int m), none] (V (0 :: r) n N) = .nx [some (.ref 1), some (.int m), none] (V r n N) := by
        have pp := pop1_ref (M := V (0 :: r) n N) (n := 0) (i := 0) (xs := (0 :: r).map .int) V0 rfl (Nat.zero_le _)
        have pp' : methD (V (0 :: r) n N) .pop1 (.ref 0) [.int 0] = .ok (.int 0) (V r n N) := pp
        simp -implicitDefEqProofs [b14, V0, V1, atI_0, pp']
      rw [st_wh, ht]
      simp -implicitDefEqProofs only [sbind_ok, asBl_bl, hb]
      exact e
    · refine ⟨g :: r, ?_, .inr ⟨g, r, rfl, h⟩⟩
      have q : (g == 0) = false := beq_eq_false_iff_ne.mpr h
      have p : (0 : Int) < (r.length : Int) + 1 := by omega
      rw [st_wh]
      simp -implicitDefEqProofs [t14, V0, V1, atI_0, p, q, h]
theorem tap {gs : List Int} {n m : Int} {N : MH} {d : Nat} (hm : 0 < m) (hm2 : m ≤ 1000000) (hN : Nr N) : ∃ gs' n' t, 0 ≤ t ∧ t < m ∧ R.f (d + 1) 14 [.ref 1, .int m] (V gs n N) = .ok (.int t) (V gs' n' N) := by
  obtain ⟨gs', e, q⟩ := tapW (c := ⟨d, none⟩) (n := n) (m := m) (N := N) gs
  have hz : m ≠ 0 := by omega
  have hab : m.natAbs < 1073741824 := by omega
  have dv : ∀ (x : Int) M, binD false M .FloorDiv (.int x) (.int m) = .ok (.int (x.fdiv m)) M := fun x M => div_int hz hab
  have md : ∀ (x : Int) M, binD false M .Mod (.int x) (.int m) = .ok (.int (x.fmod m)) M := fun x M => mod_int hz
  have dv2 : ∀ (x : Int) M, binD false M .FloorDiv (.int x) (.int 257) = .ok (.int (x.fdiv 257)) M := fun x M => div_int (by decide) (by decide)
  have md2 : ∀ (x : Int) M, binD false M .Mod (.int x) (.int 2147483543) = .ok (.int (x.fmod 2147483543)) M := fun x M => mod_int (by decide)
  have mu : ∀ (x : Int) M, binD false M .Mult (.int x) (.int 69621) = .ok (.int (x * 69621)) M := fun x M => mul_r rfl
  have eb : f_14.body = .wh t14 b14 :: f_14.body.tail := rfl
  have fin : ∀ (gs : List Int) (n t : Int), endF true (N.length + 2) (.rt (.int t) (V gs n N)) = .ok (.int t) (V gs n N) := fun gs n t => endF_vC (M := V gs n N) rfl (List.take_length) (V_cl hN)
  rcases q with rfl | ⟨g, r, rfl, hg⟩
  · refine ⟨[], (n * 69621 + 227).fmod 2147483543, (((n * 69621 + 227).fmod 2147483543).fdiv 257).fmod m, Int.fmod_nonneg_of_pos _ hm, Int.fmod_lt_of_pos _ hm, ?_⟩
    rw [call_eq (t := f_14) rfl rfl]
    show endF true (N.length + 2) (R.ss ⟨d, none⟩ f_14.body [some (.ref 1), some (.int m), none] (V gs n N)) = _
    rw [eb, ss_cons', e, ssbind_nx, ← fin]
    have z : (V [] n N).set 1 (.lst ([D.ref 0, D.int n].set 1 (.int ((n * 69621 + 227).fmod 2147483543)))) = V [] ((n * 69621 + 227).fmod 2147483543) N := rfl
    have i1 : L2.ixN 2 1 = some 1 := rfl
    simp -implicitDefEqProofs [f_14, V0, V1, atI_0, atI_1, mu, md2, dv2, md, i1]
    have z' : (V [] n N).set 1 (.lst [.ref 0, .int ((n * 69621 + 227).fmod 2147483543)]) = V [] ((n * 69621 + 227).fmod 2147483543) N := rfl
    rw [z']
    simp -implicitDefEqProofs [V1, atI_1, dv2, md]
  · refine ⟨g.fdiv m :: r, n, g.fmod m, Int.fmod_nonneg_of_pos _ hm, Int.fmod_lt_of_pos _ hm, ?_⟩
    rw [call_eq (t := f_14) rfl rfl]
    show endF true (N.length + 2) (R.ss ⟨d, none⟩ f_14.body [some (.ref 1), some (.int m), none] (V gs n N)) = _
    rw [eb, ss_cons', e, ssbind_nx, ← fin]
    have p : (0 : Int) < (r.length : Int) + 1 := by omega
    have i0 : L2.ixN (r.length + 1) 0 = some 0 := ixN_0
    simp -implicitDefEqProofs [f_14, V0, V1, atI_0, p, dv, i0]
    have z' : (V (g :: r) n N).set 0 (.lst (.int (g.fdiv m) :: r.map .int)) = V (g.fdiv m :: r) n N := rfl
    rw [z']
    simp -implicitDefEqProofs [md]
def eBig : E := .bin false .Mult (.bin false .Mult (.bin false .Mult (.bin false .Mult (.bin false .Pow (.con (.int 10)) (.con (.int 60))) (.bin false .Pow (.con (.int 10)) (.con (.int 60)))) (.bin false .Pow (.con (.int 10)) (.con (.int 60)))) (.bin false .Pow (.con (.int 10)) (.con (.int 60)))) (.bin false .Pow (.con (.int 10)) (.con (.int 60)))
theorem pow_nat {m : Bool} {M : MH} {i : Int} {k : Nat} (h : k ≤ 1000000) (h2 : i.natAbs < 2 ^ 64) : binD m M .Pow (.int i) (.int k) = .ok (.int (i ^ k)) M := by
  have e : binD m M .Pow (.int i) (.int k) = if decide (0 ≤ (k : Int)) && decide ((k : Int) ≤ 1000000) && decide (i.natAbs < 2 ^ 64) then .ok (.int (i ^ (k : Int).toNat)) M else .stuck := rfl
  rw [e, Int.toNat_natCast, decide_eq_true (by omega), decide_eq_true (by omega), decide_eq_true h2]
  rfl
theorem log10 {a : Nat} (h : a ≤ 2000) : (((10 : Int) ^ a).natAbs).log2 < 10000 := by
  rw [Int.natAbs_pow]
  show ((10 : Nat) ^ a).log2 < 10000
  have h1 : (10 : Nat) ^ a ≤ 16 ^ a := Nat.pow_le_pow_left (by decide) a
  have h2 : (16 : Nat) ^ a = 2 ^ (4 * a) := by rw [Nat.pow_mul]
  have h3 : (2 : Nat) ^ (4 * a) < 2 ^ 10000 := Nat.pow_lt_pow_right (by decide) (by omega)
  have h0 : (10 : Nat) ^ a ≠ 0 := Nat.pos_iff_ne_zero.mp (Nat.pow_pos (by decide))
  rw [Nat.log2_lt h0]
  omega
theorem mulP {a b : Nat} {M : MH} (ha : a ≤ 2000) (hb : b ≤ 2000) : binD false M .Mult (.int ((10 : Int) ^ a)) (.int ((10 : Int) ^ b)) = .ok (.int ((10 : Int) ^ (a + b))) M := by
  have h : bigI ((10 : Int) ^ a) ((10 : Int) ^ b) = true := by
    unfold bigI
    rw [decide_eq_true (log10 ha), decide_eq_true (log10 hb)]
    rfl
  rw [LX.mul_int, Int.pow_add]
  split
  · rfl
  · first
    | rfl
    | rw [if_pos h]
def Ten (a : Nat) : Int := (10 : Int) ^ a
theorem big_ok {c : Cf} {ρ : LX.Env} {M : MH} : R.e c eBig ρ M = .ok (.int (Ten 300)) M := by
  have p : ∀ M, binD false M .Pow (.int 10) (.int 60) = .ok (.int (Ten 60)) M := fun M => pow_nat (k := 60) (by omega) (by decide)
  have mu : ∀ (a : Nat) M, a ≤ 2000 → binD false M .Mult (.int (Ten a)) (.int (Ten 60)) = .ok (.int (Ten (a + 60))) M := fun a M h => mulP h (by omega)
  have m1 : ∀ M, binD false M .Mult (.int (Ten 60)) (.int (Ten 60)) = .ok (.int (Ten 120)) M := fun M => mu 60 M (by omega)
  have m2 : ∀ M, binD false M .Mult (.int (Ten 120)) (.int (Ten 60)) = .ok (.int (Ten 180)) M := fun M => mu 120 M (by omega)
  have m3 : ∀ M, binD false M .Mult (.int (Ten 180)) (.int (Ten 60)) = .ok (.int (Ten 240)) M := fun M => mu 180 M (by omega)
  have m4 : ∀ M, binD false M .Mult (.int (Ten 240)) (.int (Ten 60)) = .ok (.int (Ten 300)) M := fun M => mu 240 M (by omega)
  simp -implicitDefEqProofs [eBig, p, m1, m2, m3, m4]
def b13 : List S := [.set 4 (.fn false .abs [.fn false .int [.ix (.var 0) (.var 3)]]), .set 2 (.bin false .Mod (.fn false .int [.bin false .Add (.bin false .Add (.bin false .Mult (.var 2) (.con (.int 48271))) (.bin false .Mult (.bin false .Mod (.var 4) (.con (.int 999863))) (.con (.int 79)))) (.bin false .Mult (.con (.int 59)) (.var 3))]) (.con (.int 2147483543))), .ite (.cmp .GtE (.var 4) (.bin false .Pow (.con (.int 10)) (.con (.int 18)))) [.expr (.meth .append (.var 1) [.bin false .Mod (.var 4) eBig])] []]
theorem vat_ok (ns : List Int) (hl : ns.length ≤ 63) (d : Nat) : ∃ gs n, R.f (d + 1) 13 [.fl (ns.map .int)] [] = .ok (.ref 1) (V gs n []) := by
  have hlim : lim = 16777216 := rfl
  have m1 : ∀ (i : Int) M, binD false M .Mult (.int i) (.int 48271) = .ok (.int (i * 48271)) M := fun i M => mul_r rfl
  have m2 : ∀ (i : Int) M, binD false M .Mult (.int i) (.int 79) = .ok (.int (i * 79)) M := fun i M => mul_r rfl
  have m3 : ∀ (i : Int) M, binD false M .Mult (.int 59) (.int i) = .ok (.int (59 * i)) M := fun i M => mul_l rfl
  have k1 : ∀ (i : Int) M, binD false M .Mod (.int i) (.int 999863) = .ok (.int (i.fmod 999863)) M := fun i M => mod_int (by decide)
  have k2 : ∀ (i : Int) M, binD false M .Mod (.int i) (.int 2147483543) = .ok (.int (i.fmod 2147483543)) M := fun i M => mod_int (by decide)
  have kz : Ten 300 ≠ 0 := by
    have : (0 : Int) < Ten 300 := Int.pow_pos (by decide)
    omega
  have k3 : ∀ (i : Int) M, binD false M .Mod (.int i) (.int (Ten 300)) = .ok (.int (i.fmod (Ten 300))) M := fun i M => mod_int kz
  have bg := fun (c : Cf) (ρ : LX.Env) (M : MH) => big_ok (c := c) (ρ := ρ) (M := M)
  have p18 : ∀ M, binD false M .Pow (.int 10) (.int 18) = .ok (.int (Ten 18)) M := fun M => pow_nat (k := 18) (by omega) (by decide)
  generalize Ten 300 = Z at k3 bg
  generalize Ten 18 = Y at p18
  obtain ⟨ρ2, M2, e, gs, x, o3, o4, hg, rfl, rfl⟩ := for_nx (P := pg) (c := ⟨d, none⟩) (g := .one 3) (all := rngL 0 (min ns.length 59)) (b := b13)
    (fun i ρ M' => ∃ (gs : List Int) (x : Int) (o3 o4 : Option D), gs.length ≤ i ∧ M' = [.lst (gs.map .int)] ∧ ρ = [some (.fl (ns.map .int)), some (.ref 0), some (.int x), o3, o4]) (l := rngL 0 (min ns.length 59)) (s := 0) (ρ := [some (.fl (ns.map .int)), some (.ref 0), some (.int 1009), none, none]) (M := [.lst []]) (by
      rintro i v ρ M' hx ⟨gs, x, o3, o4, hg, rfl, rfl⟩
      obtain ⟨hi, rfl⟩ := rngL_get hx
      have g : (ns.map D.int)[i]? = some (.int ns[i]) := by rw [List.getElem?_map, List.getElem?_eq_getElem (by omega)]; rfl
      rw [Int.zero_add]
      generalize hcell : (if ns[i] < 0 then -ns[i] else ns[i]) = cell
      have lt : gs.length < lim := by omega
      by_cases hc : Y ≤ cell
      · refine ⟨_, [some (.fl (ns.map .int)), some (.ref 0), some (.int ((x * 48271 + cell.fmod 999863 * 79 + 59 * (i : Int)).fmod 2147483543)), some (.int i), some (.int cell)], [.lst ((gs ++ [cell.fmod Z]).map .int)], rfl, .inl ?_, gs ++ [cell.fmod Z], _, _, _, by rw [List.length_append, List.length_singleton]; omega, rfl, rfl⟩
        simp -implicitDefEqProofs [b13, atI_at, g, hcell, m1, m2, m3, k1, k2, k3, bg, p18, hc, lstAt, lt]
      · refine ⟨_, [some (.fl (ns.map .int)), some (.ref 0), some (.int ((x * 48271 + cell.fmod 999863 * 79 + 59 * (i : Int)).fmod 2147483543)), some (.int i), some (.int cell)], [.lst (gs.map .int)], rfl, .inl ?_, gs, _, _, _, by omega, rfl, rfl⟩
        simp -implicitDefEqProofs [b13, atI_at, g, hcell, m1, m2, m3, k1, k2, k3, bg, p18, hc]) ⟨[], _, _, _, by simp, rfl, rfl⟩
  refine ⟨gs, x + 1, ?_⟩
  rw [call_eq (t := f_13) rfl rfl]
  show endF false 0 (R.ss ⟨d, none⟩ f_13.body (startE 5 [.fl (ns.map .int)]) []) = _
  have eb : f_13.body = [.set 1 (.lst true []), .set 2 (.con (.int 1009)), .for (.one 3) (.rng1 (.fn false .min2 [.fn false .len [.var 0], .con (.int 59)])) b13, .ret (.lst true [.var 1, .bin false .Add (.var 2) (.con (.int 1))])] := rfl
  rw [eb]
  have rg := rng1_nat (n := min ns.length 59) (by omega)
  have mi : (if (59 : Int) < ns.length then (59 : Int) else ns.length) = ((min ns.length 59 : Nat) : Int) := by split <;> omega
  simp -implicitDefEqProofs [startE, lim, mi, rg]
  rw [e]
  simp -implicitDefEqProofs [lim]
  rfl
end LK

set_option Elab.async false
set_option linter.all false
set_option maxRecDepth 1000000
set_option maxHeartbeats 4000000
namespace LK
open LX
/-! ### _law_same -/
def t15 : E := .cmp .Gt (.fn false .len [.var 2]) (.con (.int 0))
def b15t : List S := [.ite (.isi [.tuple] (.var 4)) [.ite (.or (.not (.isi [.tuple] (.var 3))) (.cmp .NotEq (.fn false .len [.var 3]) (.fn false .len [.var 4]))) [.ret (.con (.bl false))] [], .set 2 (.bin true .Add (.var 2) (.lc false [5] (.one 5) (.rng1 (.fn false .len [.var 4])) none (.tup [.ix (.var 3) (.var 5), .ix (.var 4) (.var 5)])))] [.ite (.isi [.list] (.var 4)) [.ite (.or (.not (.isi [.list] (.var 3))) (.cmp .NotEq (.fn false .len [.var 3]) (.fn false .len [.var 4]))) [.ret (.con (.bl false))] [], .set 2 (.bin true .Add (.var 2) (.lc false [5] (.one 5) (.rng1 (.fn false .len [.var 4])) none (.tup [.ix (.var 3) (.var 5), .ix (.var 4) (.var 5)])))] [.ite (.cmp .Is (.var 4) (.con .non)) [.ite (.cmp .IsNot (.var 3) (.con .non)) [.ret (.con (.bl false))] []] [.ite (.isi [.bool] (.var 4)) [.ite (.or (.not (.isi [.bool] (.var 3))) (.cmp .NotEq (.var 3) (.var 4))) [.ret (.con (.bl false))] []] [.ite (.isi [.int] (.var 4)) [.ite (.or (.not (.isi [.int] (.var 3))) (.or (.isi [.bool] (.var 3)) (.cmp .NotEq (.var 3) (.var 4)))) [.ret (.con (.bl false))] []] [.ite (.or (.not (.isi [.str] (.var 4))) (.or (.not (.isi [.str] (.var 3))) (.cmp .NotEq (.var 3) (.var 4)))) [.ret (.con (.bl false))] []]]]]]]
def b15 : List S := .unp [3, 4] (.meth .pop0 (.var 2) []) :: b15t
def prD (p : D × D) : D := .tup [p.1, p.2]
/-- how much is still to be compared -/
def pz : List (D × D) → Nat
  | [] => 0
  | p :: r => D.sz p.2 + pz r
theorem pz_app : ∀ xs ys : List (D × D), pz (xs ++ ys) = pz xs + pz ys
  | [], ys => by show pz ys = 0 + pz ys; omega
  | x :: xs, ys => by
    show D.sz x.2 + pz (xs ++ ys) = D.sz x.2 + pz xs + pz ys
    rw [pz_app xs ys]
    omega
theorem len_pz : ∀ xs : List (D × D), xs.length ≤ pz xs
  | [] => Nat.le_refl _
  | x :: xs => by
    have h1 := sz_pos x.2
    have h2 := len_pz xs
    show xs.length + 1 ≤ D.sz x.2 + pz xs
    omega
theorem pz_zip : ∀ xs ys : List D, pz (xs.zip ys) ≤ D.szs ys
  | [], ys => Nat.zero_le _
  | x :: xs, [] => Nat.zero_le _
  | x :: xs, y :: ys => by
    have := pz_zip xs ys
    show D.sz y + pz (xs.zip ys) ≤ D.sz y + D.szs ys
    omega
theorem pls_und0 {ps : List (D × D)} (h : ∀ p ∈ ps, D.pl p.1 = true ∧ D.pl p.2 = true) : D.undAll 0 (ps.map prD) = true := unds_of fun d hd => by
  obtain ⟨p, hp, rfl⟩ := List.mem_map.mp hd
  show (D.und 0 p.1 && (D.und 0 p.2 && true)) = true
  rw [pl_und 0 (h p hp).1, pl_und 0 (h p hp).2]
  rfl
/-- where the comparing stands -/
structure I15 (M : MH) (E : Bool) (k : Nat) (ps : List (D × D)) (w : Nat) (M' : MH) : Prop where
  pl : ∀ p ∈ ps, D.pl p.1 = true ∧ D.pl p.2 = true
  sz : pz ps = k
  few : k ≤ lim
  eq : E = true → ∀ p ∈ ps, p.1 = p.2
  tk : M'.take M.length = M
  lw : M.length ≤ w
  hw : lstAt M' w = some (ps.map prD)
def J15 (x y : D) (M : MH) (E : Bool) (k : Nat) (ρ : LX.Env) (M' : MH) : Prop := ∃ ps w o3 o4 o5, I15 M E k ps w M' ∧ ρ = [some x, some y, some (.ref w), o3, o4, o5]
/-- a turn: it goes on, or hands back False (never where all is alike) -/
theorem turn15 {x y : D} {M : MH} {E : Bool} {c : Cf} (k : Nat) (ρ : LX.Env) (M' : MH) (h : J15 x y M E k ρ M') :
    R.e c t15 ρ M' = .ok (.bl false) M' ∨ (R.e c t15 ρ M' = .ok (.bl true) M' ∧ ((∃ ρ2 M2 k2, R.ss c b15 ρ M' = .nx ρ2 M2 ∧ k2 < k ∧ J15 x y M E k2 ρ2 M2) ∨ (E = false ∧ ∃ M2, R.ss c b15 ρ M' = .rt (.bl false) M2 ∧ M2.take M.length = M))) := by
  have hlim : lim = 16777216 := rfl
  obtain ⟨ps, w, o3, o4, o5, I, rfl⟩ := h
  rcases List.eq_nil_or_concat ps with rfl | ⟨qs, q, rfl⟩
  · left
    have hw : lstAt M' w = some [] := I.hw
    simp -implicitDefEqProofs [t15, hw]
  · right
    rw [List.concat_eq_append] at I
    obtain ⟨a, b⟩ := q
    have hwL := lst_lt I.hw
    have hw : lstAt M' w = some (qs.map prD ++ [.tup [a, b]]) := by rw [I.hw]; simp [prD]
    have hpl := I.pl (a, b) (by simp)
    have pa : D.pl a = true := hpl.1
    have pb : D.pl b = true := hpl.2
    have hE : E = true → a = b := fun e => I.eq e (a, b) (by simp)
    have hsz : pz qs + D.sz b = k := by
      have := I.sz
      rw [pz_app] at this
      have z : pz [(a, b)] = D.sz b + 0 := rfl
      omega
    have hfew := I.few
    have t1 : (M'.set w (.lst (qs.map prD))).take M.length = M := by rw [take_set_ge I.lw, I.tk]
    have w1 : lstAt (M'.set w (.lst (qs.map prD))) w = some (qs.map prD) := lst_set hwL
    have hpq : ∀ p ∈ qs, D.pl p.1 = true ∧ D.pl p.2 = true := fun p hp => I.pl p (by simp [hp])
    have heq : E = true → ∀ p ∈ qs, p.1 = p.2 := fun e p hp => I.eq e p (by simp [hp])
    have sb := sz_pos b
    refine ⟨by simp -implicitDefEqProofs [t15, hw], ?_⟩
    have s1 : R.ss c b15 [some x, some y, some (.ref w), o3, o4, o5] M' = R.ss c b15t [some x, some y, some (.ref w), some a, some b, o5] (M'.set w (.lst (qs.map prD))) := by
      unfold b15
      simp -implicitDefEqProofs [hw, bindG, setAll]
    rw [s1]
    generalize hM1 : M'.set w (.lst (qs.map prD)) = M1 at *
    have stay : (∃ ρ2 M2 k2, SRes.nx [some x, some y, some (.ref w), some a, some b, o5] M1 = .nx ρ2 M2 ∧ k2 < k ∧ J15 x y M E k2 ρ2 M2) := ⟨_, _, pz qs, rfl, by omega, qs, w, _, _, _, ⟨hpq, rfl, by omega, heq, t1, I.lw, w1⟩, rfl⟩
    have quit : ∀ (h : a ≠ b), E = false := fun h => by
      cases E with
      | false => rfl
      | true => exact absurd (hE rfl) h
    cases b with
    | tup ys =>
      by_cases ha : ∃ xs, a = .tup xs
      · obtain ⟨xs, rfl⟩ := ha
        by_cases hl : xs.length = ys.length
        · left
          have szb : D.sz (.tup ys) = 1 + D.szs ys := rfl
          have lz := len_szs ys
          have lq := len_pz qs
          have hyl : ys.length ≤ lim := by omega
          have lc : ∀ ρ, ρ = [some x, some y, some (.ref w), some (.tup xs), some (.tup ys), none] → lcL R c (.one 5) (rngL 0 ys.length) none none (.tup [.ix (.var 3) (.var 5), .ix (.var 4) (.var 5)]) ρ (rngL 0 ys.length) [] M1 = .ok ((xs.zip ys).map prD) M1 := fun ρ hρ => by
            obtain ⟨r, M2, e, hr, rfl⟩ := lc_nx (P := pg) (c := c) (g := .one 5) (all := rngL 0 ys.length) (e := .tup [.ix (.var 3) (.var 5), .ix (.var 4) (.var 5)]) (ρ := ρ)
              (fun i acc M' => acc = ((xs.zip ys).take i).map prD ∧ M' = M1) (l := rngL 0 ys.length) (acc := []) (s := 0) (M := M1) (by
                rintro i v acc M' hv ⟨rfl, rfl⟩
                obtain ⟨hi, rfl⟩ := rngL_get hv
                have g1 : xs[i]? = some xs[i] := List.getElem?_eq_getElem (by omega)
                have g2 : ys[i]? = some ys[i] := List.getElem?_eq_getElem hi
                have gz : (xs.zip ys)[i]? = some (xs[i], ys[i]) := by rw [List.getElem?_zip_eq_some]; exact ⟨g1, g2⟩
                refine ⟨_, .tup [xs[i], ys[i]], M', rfl, ?_, ?_, rfl⟩
                · subst hρ
                  rw [Int.zero_add]
                  simp -implicitDefEqProofs [atI_at, g1, g2, lim]
                · rw [Nat.zero_add, List.take_succ, gz]
                  simp [prD]) ⟨rfl, rfl⟩ (by rw [rngL_len]; simp; omega)
            rw [e, hr, rngL_len, Nat.zero_add, List.take_of_length_le (by rw [List.length_zip]; omega)]
          have rg := rng1_nat (n := ys.length) hyl
          have lc' := lc _ rfl
          have zl : (xs.zip ys).length = ys.length := by rw [List.length_zip]; omega
          have pzz := pz_zip xs ys
          have ad : binD true M1 .Add (.ref w) (.tl ((xs.zip ys).map prD)) = newL true (qs.map prD ++ (xs.zip ys).map prD) M1 := add_ref w1 (by rw [List.length_map, List.length_map, zl]; omega)
          have hM1L : M.length ≤ M1.length := by have := I.lw; rw [← hM1, List.length_set]; omega
          refine ⟨[some x, some y, some (.ref M1.length), some (.tup xs), some (.tup ys), o5], M1 ++ [.lst ((qs ++ xs.zip ys).map prD)], pz (qs ++ xs.zip ys), ?_, by rw [pz_app]; omega, qs ++ xs.zip ys, M1.length, _, _, _, ⟨fun p hp => ?_, rfl, by rw [pz_app]; omega, fun e p hp => ?_, by rw [take_snoc_le hM1L, t1], hM1L, lstAt_app⟩, rfl⟩
          · have hl' : ((xs.length : Int) == (ys.length : Int)) = true := beq_iff_eq.mpr (by omega)
            simp -implicitDefEqProofs [b15t, isKind, kindOf, hl', rg, wipeE]
            rw [lc']
            simp -implicitDefEqProofs [ad]
          · rcases List.mem_append.mp hp with hp | hp
            · exact hpq p hp
            · exact ⟨pls_mem pa _ (List.of_mem_zip hp).1, pls_mem pb _ (List.of_mem_zip hp).2⟩
          · rcases List.mem_append.mp hp with hp | hp
            · exact heq e p hp
            · have := hE e
              cases this
              obtain ⟨i, hi⟩ := List.getElem?_of_mem hp
              rw [List.getElem?_zip_eq_some] at hi
              exact Option.some.inj (hi.1.symm.trans hi.2)
        · right
          refine ⟨quit fun z => by cases z; exact hl rfl, M1, ?_, t1⟩
          have hl' : ((xs.length : Int) == (ys.length : Int)) = false := beq_eq_false_iff_ne.mpr (by omega)
          simp -implicitDefEqProofs [b15t, isKind, kindOf, hl']
      · right
        have k1 : isKind [.tuple] a = false := by
          cases a with
          | tup xs => exact absurd ⟨xs, rfl⟩ ha
          | _ => rfl
        have k2 : isKind [.tuple] (.tup ys) = true := rfl
        refine ⟨quit fun z => ha ⟨ys, z⟩, M1, ?_, t1⟩
        simp -implicitDefEqProofs [b15t, k1, k2]
    | non =>
      have k1 : isKind [.tuple] .non = false := rfl
      have k2 : isKind [.list] .non = false := rfl
      by_cases ha : a = .non
      · subst ha
        left
        have e : R.ss c b15t [some x, some y, some (.ref w), some .non, some .non, o5] M1 = .nx [some x, some y, some (.ref w), some .non, some .non, o5] M1 := by
          simp -implicitDefEqProofs [b15t, k1, k2]
        exact ⟨_, _, pz qs, e, by omega, qs, w, _, _, _, ⟨hpq, rfl, by omega, heq, t1, I.lw, w1⟩, rfl⟩
      · right
        have kn : isNon a = false := by
          cases a with
          | non => exact absurd rfl ha
          | _ => rfl
        refine ⟨quit ha, M1, ?_, t1⟩
        simp -implicitDefEqProofs [b15t, k1, k2, kn]
    | bl j =>
      have k1 : isKind [.tuple] (.bl j) = false := rfl
      have k2 : isKind [.list] (.bl j) = false := rfl
      have k3 : isKind [.bool] (.bl j) = true := rfl
      by_cases ha : ∃ i, a = .bl i
      · obtain ⟨i, rfl⟩ := ha
        have k4 : isKind [.bool] (.bl i) = true := rfl
        by_cases hij : i = j
        · subst hij
          left
          have e : R.ss c b15t [some x, some y, some (.ref w), some (.bl i), some (.bl i), o5] M1 = .nx [some x, some y, some (.ref w), some (.bl i), some (.bl i), o5] M1 := by
            simp -implicitDefEqProofs [b15t, k1, k2, k3]
          exact ⟨_, _, pz qs, e, by omega, qs, w, _, _, _, ⟨hpq, rfl, by omega, heq, t1, I.lw, w1⟩, rfl⟩
        · right
          have q : (i == j) = false := beq_eq_false_iff_ne.mpr hij
          refine ⟨quit fun z => hij (by cases z; rfl), M1, ?_, t1⟩
          simp -implicitDefEqProofs [b15t, k1, k2, k3, k4, q]
      · right
        have k4 : isKind [.bool] a = false := by
          cases a with
          | bl i => exact absurd ⟨i, rfl⟩ ha
          | _ => rfl
        refine ⟨quit fun z => ha ⟨j, z⟩, M1, ?_, t1⟩
        simp -implicitDefEqProofs [b15t, k1, k2, k3, k4]
    | int j =>
      have k1 : isKind [.tuple] (.int j) = false := rfl
      have k2 : isKind [.list] (.int j) = false := rfl
      have k3 : isKind [.bool] (.int j) = false := rfl
      have k5 : isKind [.int] (.int j) = true := rfl
      by_cases ha : ∃ i, a = .int i
      · obtain ⟨i, rfl⟩ := ha
        have k4 : isKind [.bool] (.int i) = false := rfl
        have k6 : isKind [.int] (.int i) = true := rfl
        by_cases hij : i = j
        · subst hij
          left
          have e : R.ss c b15t [some x, some y, some (.ref w), some (.int i), some (.int i), o5] M1 = .nx [some x, some y, some (.ref w), some (.int i), some (.int i), o5] M1 := by
            simp -implicitDefEqProofs [b15t, k1, k2, k3, k4, k5]
          exact ⟨_, _, pz qs, e, by omega, qs, w, _, _, _, ⟨hpq, rfl, by omega, heq, t1, I.lw, w1⟩, rfl⟩
        · right
          have q : (i == j) = false := beq_eq_false_iff_ne.mpr hij
          refine ⟨quit fun z => hij (by cases z; rfl), M1, ?_, t1⟩
          simp -implicitDefEqProofs [b15t, k1, k2, k3, k4, k5, k6, q, hij]
      · right
        refine ⟨quit fun z => ha ⟨j, z⟩, M1, ?_, t1⟩
        by_cases hb : isKind [.int] a = true
        · have k6 : isKind [.bool] a = true := by
            cases a with
            | int i => exact absurd ⟨i, rfl⟩ ha
            | bl i => rfl
            | _ => cases hb
          simp -implicitDefEqProofs [b15t, k1, k2, k3, k5, hb, k6]
        · have hb : isKind [.int] a = false := by simpa using hb
          simp -implicitDefEqProofs [b15t, k1, k2, k3, k5, hb]
    | str j =>
      have k1 : isKind [.tuple] (.str j) = false := rfl
      have k2 : isKind [.list] (.str j) = false := rfl
      have k3 : isKind [.bool] (.str j) = false := rfl
      have k5 : isKind [.int] (.str j) = false := rfl
      have k7 : isKind [.str] (.str j) = true := rfl
      by_cases ha : ∃ i, a = .str i
      · obtain ⟨i, rfl⟩ := ha
        have k8 : isKind [.str] (.str i) = true := rfl
        by_cases hij : i = j
        · subst hij
          left
          have e : R.ss c b15t [some x, some y, some (.ref w), some (.str i), some (.str i), o5] M1 = .nx [some x, some y, some (.ref w), some (.str i), some (.str i), o5] M1 := by
            simp -implicitDefEqProofs [b15t, k1, k2, k3, k5, k7]
          exact ⟨_, _, pz qs, e, by omega, qs, w, _, _, _, ⟨hpq, rfl, by omega, heq, t1, I.lw, w1⟩, rfl⟩
        · right
          have q : (i == j) = false := beq_eq_false_iff_ne.mpr hij
          refine ⟨quit fun z => hij (by cases z; rfl), M1, ?_, t1⟩
          simp -implicitDefEqProofs [b15t, k1, k2, k3, k5, k7, k8, q, hij]
      · right
        have k8 : isKind [.str] a = false := by
          cases a with
          | str i => exact absurd ⟨i, rfl⟩ ha
          | _ => rfl
        refine ⟨quit fun z => ha ⟨j, z⟩, M1, ?_, t1⟩
        simp -implicitDefEqProofs [b15t, k1, k2, k3, k5, k7, k8]
    | _ => cases pb
/-- a while loop that runs to its end, or hands back on its way -/
theorem wh_ex {c : Cf} {t : E} {b : List S} (I : Nat → LX.Env → MH → Prop) (Rt : D → MH → Prop) (h : ∀ k ρ M, I k ρ M → R.e c t ρ M = .ok (.bl false) M ∨ (R.e c t ρ M = .ok (.bl true) M ∧ ((∃ ρ2 M2 k2, R.ss c b ρ M = .nx ρ2 M2 ∧ k2 < k ∧ I k2 ρ2 M2) ∨ ∃ d M2, R.ss c b ρ M = .rt d M2 ∧ Rt d M2))) :
    ∀ k ρ M, I k ρ M → (∃ ρ' M' k', R.s c (.wh t b) ρ M = .nx ρ' M' ∧ I k' ρ' M') ∨ ∃ d M', R.s c (.wh t b) ρ M = .rt d M' ∧ Rt d M' := by
  intro k
  induction k using Nat.strongRecOn with
  | ind k ih =>
    intro ρ M hi
    rcases h k ρ M hi with e | ⟨e, ⟨ρ2, M2, k2, e2, hk, h2⟩ | ⟨d, M2, e2, h2⟩⟩
    · refine .inl ⟨ρ, M, k, ?_, hi⟩
      rw [st_wh, e]
      rfl
    · rcases ih k2 hk ρ2 M2 h2 with ⟨ρ', M', k', e3, h3⟩ | ⟨d, M', e3, h3⟩
      · refine .inl ⟨ρ', M', k', ?_, h3⟩
        rw [st_wh, e]
        simp -implicitDefEqProofs [e2, e3]
      · refine .inr ⟨d, M', ?_, h3⟩
        rw [st_wh, e]
        simp -implicitDefEqProofs [e2, e3]
    · refine .inr ⟨d, M2, ?_, h2⟩
      rw [st_wh, e]
      simp -implicitDefEqProofs [e2]
theorem same_gen {x y : D} {M : MH} {d : Nat} (E : Bool) (hx : D.pl x = true) (hy : D.pl y = true) (hz : D.sz y ≤ lim) (hE : E = true → x = y) (hM : Cl M) : ∃ k, (E = true → k = true) ∧ R.f (d + 1) 15 [x, y] M = .ok (.bl k) M := by
  have hlim : lim = 16777216 := rfl
  have key := wh_ex (c := ⟨d, none⟩) (t := t15) (b := b15) (J15 x y M E) (fun v M2 => E = false ∧ v = .bl false ∧ M2.take M.length = M) (fun k ρ M' h => by
    rcases turn15 (c := ⟨d, none⟩) k ρ M' h with e | ⟨e, h | ⟨he, M2, e2, ht⟩⟩
    · exact .inl e
    · exact .inr ⟨e, .inl h⟩
    · exact .inr ⟨e, .inr ⟨.bl false, M2, e2, he, rfl, ht⟩⟩) (D.sz y) [some x, some y, some (.ref M.length), none, none, none] (M ++ [.lst [.tup [x, y]]])
    ⟨[(x, y)], M.length, none, none, none, ⟨fun p hp => by rw [List.mem_singleton.mp hp]; exact ⟨hx, hy⟩, by show D.sz y + 0 = _; omega, hz, fun e p hp => by rw [List.mem_singleton.mp hp]; exact hE e, by simp, Nat.le_refl _, lstAt_app⟩, rfl⟩
  have eb : f_15.body = [.set 2 (.lst true [.tup [.var 0, .var 1]])] ++ [.wh t15 b15, .ret (.con (.bl true))] := rfl
  have first : R.ss ⟨d, none⟩ f_15.body (startE 6 [x, y]) M = R.ss ⟨d, none⟩ [.wh t15 b15, .ret (.con (.bl true))] [some x, some y, some (.ref M.length), none, none, none] (M ++ [.lst [.tup [x, y]]]) := by
    rw [eb]
    simp -implicitDefEqProofs [startE, lim]
  rw [call_eq (t := f_15) rfl rfl]
  show ∃ k, (E = true → k = true) ∧ endF true M.length (R.ss ⟨d, none⟩ f_15.body (startE 6 [x, y]) M) = _
  rw [first]
  rcases key with ⟨ρ', M', k', e, ps, w, o3, o4, o5, I, rfl⟩ | ⟨v, M', e, he, rfl, ht⟩
  · refine ⟨true, fun _ => rfl, ?_⟩
    rw [ss_cons', e]
    simp -implicitDefEqProofs
    exact endF_vC rfl I.tk hM
  · refine ⟨false, (fun h => by rw [he] at h; cases h), ?_⟩
    rw [ss_cons', e]
    simp -implicitDefEqProofs
    exact endF_vC rfl ht hM
theorem same_true {x : D} {M : MH} {d : Nat} (h : D.pl x = true) (hz : D.sz x ≤ lim) (hM : Cl M) : R.f (d + 1) 15 [x, x] M = .ok (.bl true) M := by
  obtain ⟨k, hk, e⟩ := same_gen (d := d) true h h hz (fun _ => rfl) hM
  rw [e, hk rfl]
theorem same_any {x y : D} {M : MH} {d : Nat} (hx : D.pl x = true) (hy : D.pl y = true) (hz : D.sz y ≤ lim) (hM : Cl M) : ∃ k, R.f (d + 1) 15 [x, y] M = .ok (.bl k) M := by
  obtain ⟨k, _, e⟩ := same_gen (d := d) false hx hy hz (fun h => by cases h) hM
  exact ⟨k, e⟩
end LK

set_option Elab.async false
set_option linter.all false
set_option maxRecDepth 1000000
set_option maxHeartbeats 4000000
namespace LK
open LX
/-! ### signs and their classes -/
abbrev SM : List Nat := [97, 98, 99, 100, 101, 102, 103, 104, 105, 106, 107, 108, 109, 110, 111, 112, 113, 114, 115, 116, 117, 118, 119, 120, 121, 122]
abbrev FG : List Nat := [48, 49, 50, 51, 52, 53, 54, 55, 56, 57]
abbrev CO : List Nat := [65, 66, 67, 68, 69, 70, 71, 72, 73, 74, 75, 76, 77, 78, 79, 80, 81, 82, 83, 84, 85, 86, 87, 88, 89, 90]
abbrev SG : List Nat := [40, 41, 44, 61, 43, 47, 42, 94, 45, 126, 60, 59]
abbrev KP : List (List Nat) := [[108, 101, 116], [119, 101, 97, 118, 101], [109, 105, 114, 114, 111, 114], [117, 112, 115, 105, 100, 101], [115, 119, 97, 112], [101, 97, 99, 104], [98, 101, 115, 105, 100, 101], [98, 101, 108, 111, 119], [105, 102], [116, 104, 101, 110], [101, 108, 115, 101], [101, 110, 100]]
abbrev kNAME : List Nat := [110, 97, 109, 101]
abbrev kKEPT : List Nat := [107, 101, 112, 116]
abbrev kNUM : List Nat := [110, 117, 109, 98, 101, 114]
abbrev kCOL : List Nat := [99, 111, 108, 111, 117, 114, 115]
abbrev kSIGN : List Nat := [115, 105, 103, 110]
abbrev kLONG : List Nat := [108, 111, 110, 103]
/-- is a sign in a text -/
def inS (c : Nat) (s : List Nat) : Bool := decide (c ∈ s)
theorem in_any {M : MH} {c : Nat} {s : List Nat} : cmpD M .In (.str [c]) (.str s) = some (inS c s) := rfl
theorem notin_any {M : MH} {c : Nat} {s : List Nat} : cmpD M .NotIn (.str [c]) (.str s) = some (!inS c s) := rfl
theorem in_strs {M : MH} {w : List Nat} {L : List (List Nat)} {x : D} (h : seqOf M x = some (L.map .str)) (hx : ∀ s, x ≠ .str s) : cmpD M .In (.str w) x = some (decide (w ∈ L)) := by
  have e1 : cmpD M .In (.str w) x = (seqOf M x).bind fun xs => if flat (.str w) && xs.all flat then some (xs.any fun y => eqFlat y (.str w)) else inGen M (.str w) x := by
    show inD M (.str w) x = _
    cases x with
    | str s => exact absurd rfl (hx s)
    | _ =>
      match w with
      | [] => rfl
      | [c] => rfl
      | c :: c' :: r => rfl
  rw [e1, h]
  have e2 : (L.map D.str).all flat = true := List.all_eq_true.mpr fun y hy => by
    obtain ⟨z, _, rfl⟩ := List.mem_map.mp hy
    rfl
  show (if (true && (L.map D.str).all flat) = true then _ else _) = _
  rw [e2, if_pos (by decide)]
  congr 1
  rw [List.any_map, Bool.eq_iff_iff, List.any_eq_true, decide_eq_true_eq]
  constructor
  · rintro ⟨z, hz, e⟩
    have e' : (z == w) = true := e
    rw [beq_iff_eq] at e'
    exact e' ▸ hz
  · intro hw
    exact ⟨w, hw, by show (w == w) = true; rw [beq_self_eq_true]⟩
def kept (w : List Nat) : Bool := decide (w ∈ KP)
theorem in_kept {M : MH} {w : List Nat} : cmpD M .In (.str w) (.tup [.str [108, 101, 116], .str [119, 101, 97, 118, 101], .str [109, 105, 114, 114, 111, 114], .str [117, 112, 115, 105, 100, 101], .str [115, 119, 97, 112], .str [101, 97, 99, 104], .str [98, 101, 115, 105, 100, 101], .str [98, 101, 108, 111, 119], .str [105, 102], .str [116, 104, 101, 110], .str [101, 108, 115, 101], .str [101, 110, 100]]) = some (kept w) := in_strs (L := KP) rfl (fun s h => by cases h)
theorem in_keptL {M : MH} {w : List Nat} : cmpD M .In (.str w) (.tl [.str [108, 101, 116], .str [119, 101, 97, 118, 101], .str [109, 105, 114, 114, 111, 114], .str [117, 112, 115, 105, 100, 101], .str [115, 119, 97, 112], .str [101, 97, 99, 104], .str [98, 101, 115, 105, 100, 101], .str [98, 101, 108, 111, 119], .str [105, 102], .str [116, 104, 101, 110], .str [101, 108, 115, 101], .str [101, 110, 100]]) = some (kept w) := in_strs (L := KP) rfl (fun s h => by cases h)
def sgn (c : Nat) : List Nat := if inS c SM then SM ++ FG else if inS c FG then FG else if inS c CO then CO else []
/-- what a row of signs is -/
def judge (w : List Nat) : Except (List Nat) (List Nat) :=
  match w with
  | [] => .ok kNAME
  | c :: r => if inS c SM then (if 8 < w.length then .error kLONG else .ok (if kept w then kKEPT else kNAME))
    else if inS c FG then (if 6 < w.length then .error kLONG else if decide (c = 48) && decide (r ≠ []) then .error kNUM else .ok kNUM)
    else if 24 < w.length then .error kLONG else .ok kCOL
abbrev Tk : Type := List Nat × List Nat × Nat
def tD (t : Tk) : D := .tup [.str t.1, .str t.2.1, .int (t.2.2 : Nat)]
abbrev Rt : Type := Except (Nat × List Nat) (List Tk)
def cons1 (t : Tk) : Rt → Rt
  | .ok ts => .ok (t :: ts)
  | .error e => .error e
/-- the words of a text, from a line on -/
def tok : Nat → List Nat → Nat → Rt
  | 0, _, _ => .ok []
  | n + 1, u, l => match u with
    | [] => .ok []
    | c :: r =>
      if c = 10 then tok n r (l + 1)
      else if c = 32 then tok n r l
      else if c = 35 then tok n (u.dropWhile fun c => decide (c ≠ 10)) l
      else if inS c SG then cons1 (kSIGN, [c], l) (tok n r l)
      else if sgn c = [] then .error (l, kSIGN)
      else match judge (c :: r.takeWhile fun z => inS z (sgn c)) with
        | .error w => .error (l, w)
        | .ok k => cons1 (k, c :: r.takeWhile fun z => inS z (sgn c), l) (tok n (r.dropWhile fun z => inS z (sgn c)) l)
/-- words ahead of words -/
def pre (acc : List Tk) : Rt → Rt
  | .ok ts => .ok (acc ++ ts)
  | .error e => .error e
theorem pre_cons (acc : List Tk) (t : Tk) (r : Rt) : pre acc (cons1 t r) = pre (acc ++ [t]) r := by
  cases r with
  | ok ts => simp [pre, cons1]
  | error e => rfl
theorem pre_nil (r : Rt) : pre [] r = r := by cases r <;> rfl
/-- a while loop that runs to its end, or hands back on its way -/
theorem wh_exF {c : Cf} {t : E} {b : List S} (I : Nat → LX.Env → MH → Prop) (Rt : SRes → Prop) (F : LX.Env → MH → Prop) (h : ∀ k ρ M, I k ρ M → (R.e c t ρ M = .ok (.bl false) M ∧ F ρ M) ∨ (R.e c t ρ M = .ok (.bl true) M ∧ ((∃ ρ2 M2 k2, R.ss c b ρ M = .nx ρ2 M2 ∧ k2 < k ∧ I k2 ρ2 M2) ∨ ∃ d M2, R.ss c b ρ M = .rt d M2 ∧ Rt (.rt d M2)) ∨ (R.e c t ρ M = .ok (.bl true) M ∧ ∃ n fs ρ2 M2, R.ss c b ρ M = .exn n fs ρ2 M2 ∧ Rt (.exn n fs ρ2 M2)))) :
    ∀ k ρ M, I k ρ M → (∃ ρ' M', R.s c (.wh t b) ρ M = .nx ρ' M' ∧ F ρ' M') ∨ (∃ d M', R.s c (.wh t b) ρ M = .rt d M' ∧ Rt (.rt d M')) ∨ ∃ n fs ρ2 M2, R.s c (.wh t b) ρ M = .exn n fs ρ2 M2 ∧ Rt (.exn n fs ρ2 M2) := by
  intro k
  induction k using Nat.strongRecOn with
  | ind k ih =>
    intro ρ M hi
    rcases h k ρ M hi with ⟨e, hF⟩ | ⟨e, ⟨ρ2, M2, k2, e2, hk, h2⟩ | ⟨d, M2, e2, h2⟩⟩ | ⟨e, n, fs, ρ2, M2, e2, h2⟩
    · refine .inl ⟨ρ, M, ?_, hF⟩
      rw [st_wh, e]
      rfl
    · rcases ih k2 hk ρ2 M2 h2 with ⟨ρ', M', e3, h3⟩ | ⟨d, M', e3, h3⟩ | ⟨n, fs, ρ', M', e3, h3⟩
      · refine .inl ⟨ρ', M', ?_, h3⟩
        rw [st_wh, e]
        simp -implicitDefEqProofs [e2, e3]
      · refine .inr (.inl ⟨d, M', ?_, h3⟩)
        rw [st_wh, e]
        simp -implicitDefEqProofs [e2, e3]
      · refine .inr (.inr ⟨n, fs, ρ', M', ?_, h3⟩)
        rw [st_wh, e]
        simp -implicitDefEqProofs [e2, e3]
    · refine .inr (.inl ⟨d, M2, ?_, h2⟩)
      rw [st_wh, e]
      simp -implicitDefEqProofs [e2]
    · refine .inr (.inr ⟨n, fs, ρ2, M2, ?_, h2⟩)
      rw [st_wh, e]
      simp -implicitDefEqProofs [e2]
section
variable {M : MH} {d : Nat} {s : List Nat}
theorem sgn_ok {c : Nat} (hM : Cl M) (hd : 0 < d) : R.f d 4 [.str [c]] M = .ok (.str (sgn c)) M := by
  obtain ⟨d, rfl⟩ : ∃ e, d = e + 1 := ⟨d - 1, by omega⟩
  have fin : ∀ s, endF true M.length (.rt (.str s) M) = .ok (.str s) M := fun s => endF_vC rfl (by simp) hM
  have ad : binD false M .Add (.str SM) (.str FG) = .ok (.str (SM ++ FG)) M := add_str (by decide)
  rw [call_eq (t := f_4) rfl rfl, ← fin]
  unfold sgn
  cases h1 : inS c SM with
  | true => simp -implicitDefEqProofs [f_4, startE, in_any, h1, ad]
  | false =>
    cases h2 : inS c FG with
    | true => simp -implicitDefEqProofs [f_4, startE, in_any, h1, h2]
    | false =>
      cases h3 : inS c CO with
      | true => simp -implicitDefEqProofs [f_4, startE, in_any, h1, h2, h3]
      | false => simp -implicitDefEqProofs [f_4, startE, in_any, h1, h2, h3]
theorem signs_ok {w : List Nat} (hM : Cl M) (hd : 0 < d) : R.f d 0 [.str w, .str s] M = .ok (.bl (w.all fun c => inS c s)) M := by
  obtain ⟨d, rfl⟩ : ∃ e, d = e + 1 := ⟨d - 1, by omega⟩
  have key := for_ex (P := pg) (c := ⟨d, none⟩) (g := .one 2) (all := w.map fun c => .str [c]) (b := [.ite (.cmp .NotIn (.var 2) (.var 1)) [.ret (.con (.bl false))] []])
    (fun i ρ M' => M' = M ∧ (w.take i).all (fun c => inS c s) = true ∧ ∃ o, ρ = [some (.str w), some (.str s), o]) (fun d M' => d = .bl false ∧ M' = M ∧ w.all (fun c => inS c s) = false) (l := w.map fun c => .str [c]) (s := 0) (ρ := [some (.str w), some (.str s), none]) (M := M) (by
    rintro i x ρ M' hi ⟨rfl, hall, o, rfl⟩
    rw [List.getElem?_map] at hi
    obtain ⟨c, hc, rfl⟩ := Option.map_eq_some_iff.mp hi
    rw [Nat.zero_add] at hall ⊢
    refine ⟨_, rfl, ?_⟩
    by_cases h : inS c s = true
    · refine .inl ⟨[some (.str w), some (.str s), some (.str [c])], M', ?_, rfl, ?_, _, rfl⟩
      · simp -implicitDefEqProofs [notin_any, h]
      · rw [List.take_succ, hc, List.all_append, hall]
        simpa using h
    · have h : inS c s = false := by simpa using h
      refine .inr ⟨.bl false, M', ?_, rfl, rfl, ?_⟩
      · simp -implicitDefEqProofs [notin_any, h]
      · rw [List.all_eq_false]
        exact ⟨c, List.mem_of_getElem? hc, by simpa using h⟩) ⟨rfl, rfl, none, rfl⟩
  rw [call_eq (t := f_0) rfl rfl]
  rcases key with ⟨ρ', M', e1, rfl, hall, o, rfl⟩ | ⟨d', M', e1, rfl, rfl, hall⟩
  · rw [Nat.zero_add, List.length_map, List.take_length] at hall
    simp -implicitDefEqProofs [f_0, startE]
    rw [e1, hall]
    simp
    exact endF_vC rfl (by simp) hM
  · simp -implicitDefEqProofs [f_0, startE]
    rw [e1, hall]
    exact endF_vC rfl (by simp) hM
/-- a written number is told just where the figures are right -/
theorem written_ok {w : List Nat} (hM : Cl M) (hd : 1 < d) (hw : ∀ c ∈ w, inS c FG = true) (h1 : w ≠ []) (h6 : w.length ≤ 6) : ∃ v, R.f d 1 [.str w] M = .ok v M ∧ isNon v = (decide (w.head? = some 48) && decide (1 < w.length)) := by
  obtain ⟨d, rfl⟩ : ∃ e, d = e + 1 := ⟨d - 1, by omega⟩
  have fin : ∀ v : D, D.und 0 v = true → endF true M.length (.rt v M) = .ok v M := fun s h => endF_vC h (by simp) hM
  have so := signs_ok (w := w) (s := FG) (d := d) hM (by omega)
  rw [List.all_eq_true.mpr hw] at so
  have hp : 0 < w.length := List.length_pos_iff.mpr h1
  have q1 : (1 : Int) ≤ (w.length : Int) := by omega
  have q6 : (w.length : Int) ≤ 6 := by omega
  obtain ⟨c, r, rfl⟩ : ∃ c r, w = c :: r := by
    cases w with
    | nil => exact absurd rfl h1
    | cons c r => exact ⟨c, r, rfl⟩
  have hit := PySem.intText_digits (x := ⟨(c :: r).toArray⟩) (fun z hz => by
    have hz' : z ∈ c :: r := hz
    have := hw z hz'
    have m : z ∈ FG := of_decide_eq_true this
    simp only [List.mem_cons, List.mem_nil_iff, or_false] at m
    rcases m with rfl | rfl | rfl | rfl | rfl | rfl | rfl | rfl | rfl | rfl <;> exact ⟨by decide, by decide⟩) (by simp) (by show (c :: r).toArray.size ≤ 4300; rw [List.size_toArray]; omega)
  generalize PySem.NumText.digitsVal _ = n at hit
  have it : fnD false M .int [.str (c :: r)] = .ok (.int (n : Nat)) M := by
    show (if (c :: r).length ≤ 640 then (ofO (PySem.intText? ⟨(c :: r).toArray⟩) M).bind (fun n M => Res.ok (D.int n) M) else Res.stuck) = _
    rw [if_pos (by omega), hit]
    rfl
  rw [call_eq (t := f_1) rfl rfl]
  show ∃ v, endF true M.length (R.ss ⟨d, none⟩ f_1.body [some (.str (c :: r))] M) = .ok v M ∧ _
  by_cases hr : r = []
  · subst hr
    refine ⟨.int (n : Nat), ?_, by simp⟩
    rw [← fin _ rfl]
    simp -implicitDefEqProofs [f_1, so, it]
  · have hl : 0 < r.length := List.length_pos_iff.mpr hr
    have q2 : (1 : Int) < (r.length : Int) + 1 := by omega
    have q3 : (1 : Int) ≤ (r.length : Int) + 1 := by omega
    have q4 : (r.length : Int) + 1 ≤ 6 := by simpa using q6
    by_cases hc : c = 48
    · subst hc
      refine ⟨.non, ?_, by simpa using hl⟩
      rw [← fin _ rfl]
      simp -implicitDefEqProofs [f_1, so, q2, q3, q4, hl, atI_0]
    · refine ⟨.int (n : Nat), ?_, by simp [hc]⟩
      rw [← fin _ rfl]
      have nb : (c == 48) = false := beq_eq_false_iff_ne.mpr hc
      simp -implicitDefEqProofs [f_1, so, q2, q3, q4, hl, atI_0, it, nb]
end
end LK

set_option Elab.async false
set_option linter.all false
set_option maxRecDepth 1000000
set_option maxHeartbeats 4000000
namespace LK
open LX
theorem xc0 : pg.xcs[0]? = some ⟨["line", "word"], [0, 5, 1]⟩ := rfl
theorem lv : pg.live = 1 := rfl
abbrev bad {α : Type} (l : Nat) (w : List Nat) (M : MH) : Res α := .exn 0 [("line", .int (l : Nat)), ("word", .str w)] M
theorem bad_end {l : Nat} {w : List Nat} {M M' : MH} {ρ : LX.Env} (ht : M'.take M.length = M) (hM : Cl M) : endF true M.length (.exn 0 [("line", .int (l : Nat)), ("word", .str w)] ρ M') = bad l w M :=
  endF_xC rfl ht hM
theorem aug_int {M : MH} {i j : Int} : augD M .Add (.int i) (.int j) = .ok (.int (i + j)) M := rfl
theorem tw_all {p : Nat → Bool} : ∀ {l : List Nat} {c : Nat}, c ∈ l.takeWhile p → p c = true
  | x :: l, c, h => by
    rw [List.takeWhile_cons] at h
    split at h
    · rename_i hp
      rcases List.mem_cons.mp h with rfl | h
      · exact hp
      · exact tw_all h
    · cases h
section
variable {M : MH} {d : Nat} {s : List Nat}
/-- kind_of_row -/
theorem judge_ok {c : Nat} {r : List Nat} {l : Nat} (hM : Cl M) (hd : 2 < d) (hr : ∀ z ∈ r, inS z (sgn c) = true) : R.f d 6 [.str (c :: r), .int (l : Nat)] M = match judge (c :: r) with
    | .ok k => .ok (.str k) M
    | .error w => bad l w M := by
  obtain ⟨d, rfl⟩ : ∃ e, d = e + 1 := ⟨d - 1, by omega⟩
  have fin : ∀ v : D, D.und 0 v = true → endF true M.length (.rt v M) = .ok v M := fun s h => endF_vC h (by simp) hM
  have bd : ∀ (w : List Nat) (ρ : LX.Env), endF true M.length (.exn 0 [("line", .int (l : Nat)), ("word", .str w)] ρ M) = bad l w M := fun w ρ => bad_end (by simp) hM
  have ej : judge (c :: r) = if inS c SM then (if 8 < (c :: r).length then .error kLONG else .ok (if kept (c :: r) then kKEPT else kNAME))
    else if inS c FG then (if 6 < (c :: r).length then .error kLONG else if decide (c = 48) && decide (r ≠ []) then .error kNUM else .ok kNUM)
    else if 24 < (c :: r).length then .error kLONG else .ok kCOL := rfl
  rw [ej, call_eq (t := f_6) rfl rfl]
  show endF true M.length (R.ss ⟨d, none⟩ f_6.body [some (.str (c :: r)), some (.int (l : Nat))] M) = _
  have ik := in_kept (M := M) (w := c :: r)
  cases h1 : inS c SM with
  | true =>
    rw [if_pos rfl]
    by_cases h8 : 8 < (c :: r).length
    · have h8' : (8 : Int) < (r.length : Int) + 1 := by simp at h8; omega
      rw [if_pos h8]
      dsimp only
      rw [← bd kLONG [some (.str (c :: r)), some (.int (l : Nat))]]
      simp -implicitDefEqProofs [f_6, atI_0, in_any, h1, h8', xc0, zipF]
    · have h8' : ¬ (8 : Int) < (r.length : Int) + 1 := by simp at h8; omega
      rw [if_neg h8]
      dsimp only
      rw [← fin (.str (if kept (c :: r) then kKEPT else kNAME)) rfl]
      cases hk : kept (c :: r) with
      | true =>
        rw [hk] at ik
        simp -implicitDefEqProofs [f_6, atI_0, in_any, h1, h8', ik]
      | false =>
        rw [hk] at ik
        simp -implicitDefEqProofs [f_6, atI_0, in_any, h1, h8', ik]
  | false =>
    rw [if_neg (by decide)]
    cases h2 : inS c FG with
    | true =>
      rw [if_pos rfl]
      have es : sgn c = FG := by
        unfold sgn
        rw [h1, h2]
        rfl
      by_cases h6 : 6 < (c :: r).length
      · have h6' : (6 : Int) < (r.length : Int) + 1 := by simp at h6; omega
        rw [if_pos h6]
        dsimp only
        rw [← bd kLONG [some (.str (c :: r)), some (.int (l : Nat))]]
        simp -implicitDefEqProofs [f_6, atI_0, in_any, h1, h2, h6', xc0, zipF]
      · have h6' : ¬ (6 : Int) < (r.length : Int) + 1 := by simp at h6; omega
        rw [if_neg h6]
        obtain ⟨v, wr, hv⟩ := written_ok (w := c :: r) (d := d) hM (by omega) (fun z hz => by
          rcases List.mem_cons.mp hz with rfl | hz
          · exact h2
          · rw [← es]
            exact hr z hz) (by simp) (by omega)
        have hb : (decide ((c :: r).head? = some 48) && decide (1 < (c :: r).length)) = (decide (c = 48) && decide (r ≠ [])) := by
          cases r with
          | nil => simp
          | cons a r => simp
        rw [hb] at hv
        cases hz : (decide (c = 48) && decide (r ≠ [])) with
        | true =>
          rw [hz] at hv
          rw [if_pos rfl]
          dsimp only
          rw [← bd kNUM [some (.str (c :: r)), some (.int (l : Nat))]]
          simp -implicitDefEqProofs [f_6, atI_0, in_any, h1, h2, h6', wr, hv, xc0, zipF]
        | false =>
          rw [hz] at hv
          rw [if_neg (by decide)]
          dsimp only
          rw [← fin (.str kNUM) rfl]
          simp -implicitDefEqProofs [f_6, atI_0, in_any, h1, h2, h6', wr, hv]
    | false =>
      rw [if_neg (by decide)]
      by_cases h24 : 24 < (c :: r).length
      · have h' : (24 : Int) < (r.length : Int) + 1 := by simp at h24; omega
        rw [if_pos h24]
        dsimp only
        rw [← bd kLONG [some (.str (c :: r)), some (.int (l : Nat))]]
        simp -implicitDefEqProofs [f_6, atI_0, in_any, h1, h2, h', xc0, zipF]
      · have h' : ¬ (24 : Int) < (r.length : Int) + 1 := by simp at h24; omega
        rw [if_neg h24]
        dsimp only
        rw [← fin (.str kCOL) rfl]
        simp -implicitDefEqProofs [f_6, atI_0, in_any, h1, h2, h']
/-- an index that goes on while the signs are such -/
theorem run_ok {c : Cf} {t : E} {b : List S} {p : Nat → Bool} {mk : Nat → LX.Env} (ht : ∀ i, i < s.length → ∀ z, s[i]? = some z → R.e c t (mk i) M = .ok (.bl (p z)) M) (he : R.e c t (mk s.length) M = .ok (.bl false) M) (hb : ∀ i, i < s.length → R.ss c b (mk i) M = .nx (mk (i + 1)) M) :
    ∀ (n i : Nat), i + n = s.length → R.s c (.wh t b) (mk i) M = .nx (mk (i + ((s.drop i).takeWhile p).length)) M
  | 0, i, h => by
    have e : i = s.length := by omega
    subst e
    rw [st_wh, he, List.drop_length]
    rfl
  | n + 1, i, h => by
    have hi : i < s.length := by omega
    rw [List.drop_eq_getElem_cons hi, List.takeWhile_cons]
    have hz := ht i hi s[i] (List.getElem?_eq_getElem hi)
    rw [st_wh, hz]
    cases hp : p s[i] with
    | false => rfl
    | true =>
      simp -implicitDefEqProofs only [sbind_ok, asBl_bl, hb i hi, ssbind_nx]
      rw [run_ok ht he hb n (i + 1) (by omega)]
      show SRes.nx (mk (i + 1 + _)) M = .nx (mk (i + (_ + 1))) M
      rw [show ∀ k, i + 1 + k = i + (k + 1) from fun k => by omega]
theorem run_ct {c : Cf} {t : E} {b : List S} {p : Nat → Bool} {mk : Nat → LX.Env} (ht : ∀ i, i < s.length → ∀ z, s[i]? = some z → R.e c t (mk i) M = .ok (.bl (p z)) M) (he : R.e c t (mk s.length) M = .ok (.bl false) M) (hb : ∀ i, i < s.length → R.ss c b (mk i) M = .nx (mk (i + 1)) M) {i : Nat} (h : i ≤ s.length) : R.s c (.wh t b) (mk i) M = .nx (mk (i + ((s.drop i).takeWhile p).length)) M := run_ok ht he hb (s.length - i) i (by omega)
theorem comment_ok {i : Nat} (hM : Cl M) (hd : 0 < d) (hi : i ≤ s.length) : R.f d 7 [.str s, .int (i : Nat)] M = .ok (.int ((i + ((s.drop i).takeWhile fun c => decide (c ≠ 10)).length : Nat) : Int)) M := by
  obtain ⟨d, rfl⟩ : ∃ e, d = e + 1 := ⟨d - 1, by omega⟩
  have rn := run_ct (M := M) (s := s) (c := ⟨d, none⟩) (t := .and (.cmp .Lt (.var 1) (.fn false .len [.var 0])) (.cmp .NotEq (.ix (.var 0) (.var 1)) (.con (.str [10])))) (b := [.aug 1 .Add (.con (.int 1))]) (p := fun c => decide (c ≠ 10)) (mk := fun i => [some (.str s), some (.int (i : Nat))])
    (fun i hi z hz => by
      have hb : ((([z] : List Nat) == [10]) = decide (z = 10)) := by rw [Bool.eq_iff_iff, beq_iff_eq, decide_eq_true_eq]; simp
      have hl : (i : Int) < (s.length : Int) := by omega
      simp -implicitDefEqProofs [atI_at, hz, hl]
      by_cases h : z = 10 <;> simp [h]) (by simp -implicitDefEqProofs) (fun i hi => by
      have e : ((i + 1 : Nat) : Int) = (i : Int) + 1 := by omega
      rw [e]
      simp -implicitDefEqProofs [aug_int]) hi
  rw [call_eq (t := f_7) rfl rfl, ← endF_vC (M := M) (M' := M) (d := .int _) rfl (by simp) hM]
  have eb : f_7.body = [.wh (.and (.cmp .Lt (.var 1) (.fn false .len [.var 0])) (.cmp .NotEq (.ix (.var 0) (.var 1)) (.con (.str [10])))) [.aug 1 .Add (.con (.int 1))], .ret (.var 1)] := rfl
  show endF true M.length (R.ss ⟨d, none⟩ f_7.body [some (.str s), some (.int (i : Nat))] M) = _
  rw [eb, ss_cons', rn]
  simp -implicitDefEqProofs
theorem rowend_ok {i : Nat} {c : Nat} (hM : Cl M) (hd : 1 < d) (hc : s[i]? = some c) : R.f d 5 [.str s, .int (i : Nat)] M = .ok (.int ((i + 1 + ((s.drop (i + 1)).takeWhile fun z => inS z (sgn c)).length : Nat) : Int)) M := by
  obtain ⟨d, rfl⟩ : ∃ e, d = e + 1 := ⟨d - 1, by omega⟩
  have hi := (List.getElem?_eq_some_iff.mp hc).1
  have so := sgn_ok (c := c) (d := d) hM (by omega)
  have rn := run_ct (M := M) (s := s) (c := ⟨d, none⟩) (t := .and (.cmp .Lt (.var 3) (.fn false .len [.var 0])) (.cmp .In (.ix (.var 0) (.var 3)) (.var 2))) (b := [.aug 3 .Add (.con (.int 1))]) (p := fun z => inS z (sgn c)) (mk := fun k => [some (.str s), some (.int (i : Nat)), some (.str (sgn c)), some (.int (k : Nat))])
    (fun k hk z hz => by
      have hl : (k : Int) < (s.length : Int) := by omega
      generalize sgn c = G at *
      simp -implicitDefEqProofs [atI_at, hz, hl, in_any]) (by simp -implicitDefEqProofs) (fun k hk => by
      have e : ((k + 1 : Nat) : Int) = (k : Int) + 1 := by omega
      rw [e]
      simp -implicitDefEqProofs [aug_int]) (i := i + 1) (by omega)
  rw [call_eq (t := f_5) rfl rfl, ← endF_vC (M := M) (M' := M) (d := .int _) rfl (by simp) hM]
  have eb : f_5.body = [.set 2 (.call 4 [.ix (.var 0) (.var 1)]), .set 3 (.bin false .Add (.var 1) (.con (.int 1))), .wh (.and (.cmp .Lt (.var 3) (.fn false .len [.var 0])) (.cmp .In (.ix (.var 0) (.var 3)) (.var 2))) [.aug 3 .Add (.con (.int 1))], .ret (.var 3)] := rfl
  show endF true M.length (R.ss ⟨d, none⟩ f_5.body [some (.str s), some (.int (i : Nat)), none, none] M) = _
  have e : ((i + 1 : Nat) : Int) = (i : Int) + 1 := by omega
  rw [e] at rn
  have f1 : ∀ b, R.ss ⟨d, none⟩ (.set 2 (.call 4 [.ix (.var 0) (.var 1)]) :: .set 3 (.bin false .Add (.var 1) (.con (.int 1))) :: b) [some (.str s), some (.int (i : Nat)), none, none] M = R.ss ⟨d, none⟩ b [some (.str s), some (.int (i : Nat)), some (.str (sgn c)), some (.int ((i : Int) + 1))] M := fun b => by
    generalize sgn c = G at *
    simp -implicitDefEqProofs [atI_at, hc, so]
  rw [eb, f1, ss_cons', rn]
  simp -implicitDefEqProofs
end
end LK

set_option Elab.async false
set_option linter.all false
set_option maxRecDepth 1000000
set_option maxHeartbeats 4000000
namespace LK
open LX
theorem drop_tw {p : Nat → Bool} : ∀ l : List Nat, l.drop (l.takeWhile p).length = l.dropWhile p
  | [] => rfl
  | x :: l => by
    rw [List.takeWhile_cons, List.dropWhile_cons]
    cases p x with
    | true => exact drop_tw l
    | false => rfl
theorem take_tw {p : Nat → Bool} : ∀ l : List Nat, l.take (l.takeWhile p).length = l.takeWhile p
  | [] => rfl
  | x :: l => by
    rw [List.takeWhile_cons]
    cases p x with
    | true =>
      show x :: l.take (l.takeWhile p).length = x :: l.takeWhile p
      rw [take_tw l]
    | false => rfl
theorem tw_len {p : Nat → Bool} : ∀ l : List Nat, (l.takeWhile p).length ≤ l.length
  | [] => Nat.le_refl _
  | x :: l => by
    rw [List.takeWhile_cons]
    cases p x with
    | true =>
      show (l.takeWhile p).length + 1 ≤ l.length + 1
      have := tw_len (p := p) l
      omega
    | false => exact Nat.zero_le _
def b8 : List S := [.set 4 (.ix (.var 0) (.var 2)), .ite (.cmp .Eq (.var 4) (.con (.str [10]))) [.aug 3 .Add (.con (.int 1)), .aug 2 .Add (.con (.int 1))] [.ite (.cmp .Eq (.var 4) (.con (.str [32]))) [.aug 2 .Add (.con (.int 1))] [.ite (.cmp .Eq (.var 4) (.con (.str [35]))) [.set 2 (.call 7 [.var 0, .var 2])] [.ite (.cmp .In (.var 4) (.con (.str SG))) [.expr (.meth .append (.var 1) [.tup [.con (.str kSIGN), .var 4, .var 3]]), .aug 2 .Add (.con (.int 1))] [.ite (.cmp .Eq (.call 4 [.var 4]) (.con (.str []))) [.raise 0 [.var 3, .con (.str kSIGN)]] [.set 5 (.call 5 [.var 0, .var 2]), .expr (.meth .append (.var 1) [.tup [.call 6 [.cut false (.var 0) (some (.var 2)) (some (.var 5)), .var 3], .cut false (.var 0) (some (.var 2)) (some (.var 5)), .var 3]]), .set 2 (.var 5)]]]]]]
def t8 : E := .cmp .Lt (.var 2) (.fn false .len [.var 0])
abbrev E8 (s : List Nat) (B at' l : Nat) (o4 o5 : Option D) : LX.Env := [some (.str s), some (.ref B), some (.int (at' : Nat)), some (.int (l : Nat)), o4, o5]
def H8 (M : MH) (acc : List Tk) : MH := M ++ [.lst (acc.map tD)]
theorem H8_cl {M : MH} {acc : List Tk} (hM : Cl M) : Cl (H8 M acc) := cl_snoc hM (unds_of fun x hx => by
  obtain ⟨t, _, rfl⟩ := List.mem_map.mp hx
  rfl)
theorem H8_at {M : MH} {acc : List Tk} : lstAt (H8 M acc) M.length = some (acc.map tD) := lstAt_app
theorem H8_set {M : MH} {acc : List Tk} {t : Tk} : (H8 M acc).set M.length (.lst (acc.map tD ++ [tD t])) = H8 M (acc ++ [t]) := by
  unfold H8
  rw [set_app]
  simp
theorem H8_take {M : MH} {acc : List Tk} : (H8 M acc).take M.length = M := by simp [H8]
section
variable {M : MH} {d : Nat} {s : List Nat}
def J8 (s : List Nat) (M : MH) (T : Rt) (k : Nat) (ρ : LX.Env) (M' : MH) : Prop := ∃ at' acc l n o4 o5, at' ≤ s.length ∧ k = s.length - at' ∧ acc.length ≤ at' ∧ s.length - at' ≤ n ∧ pre acc (tok n (s.drop at') l) = T ∧ M' = H8 M acc ∧ ρ = E8 s M.length at' l o4 o5
theorem turn8 {T : Rt} (hM : Cl M) (hd : 3 < d) (hs : s.length < lim) (k : Nat) (ρ : LX.Env) (M' : MH) (h : J8 s M T k ρ M') :
    (R.e ⟨d, none⟩ t8 ρ M' = .ok (.bl false) M' ∧ ∃ at' acc l o4 o5, T = .ok acc ∧ M' = H8 M acc ∧ ρ = E8 s M.length at' l o4 o5) ∨
    (R.e ⟨d, none⟩ t8 ρ M' = .ok (.bl true) M' ∧ ((∃ ρ2 M2 k2, R.ss ⟨d, none⟩ b8 ρ M' = .nx ρ2 M2 ∧ k2 < k ∧ J8 s M T k2 ρ2 M2) ∨ ∃ l w ρ2 M2, R.ss ⟨d, none⟩ b8 ρ M' = .exn 0 [("line", .int (l : Nat)), ("word", .str w)] ρ2 M2 ∧ T = .error (l, w) ∧ M2.take M.length = M)) := by
  obtain ⟨i, acc, l, n, o4, o5, hi, rfl, ha, hn, hT, rfl, rfl⟩ := h
  have hC := H8_cl (acc := acc) hM
  have lacc : acc.length < 16777216 := by have : lim = 16777216 := rfl; omega
  by_cases hl : i < s.length
  · right
    have hl' : (i : Int) < (s.length : Int) := by omega
    refine ⟨by simp -implicitDefEqProofs [t8, hl'], ?_⟩
    obtain ⟨c, hc⟩ : ∃ c, s[i]? = some c := ⟨s[i], List.getElem?_eq_getElem hl⟩
    have hd1 : s.drop i = c :: s.drop (i + 1) := by
      rw [List.drop_eq_getElem_cons hl]
      congr 1
      exact (List.getElem?_eq_some_iff.mp hc).2
    obtain ⟨n, rfl⟩ : ∃ m, n = m + 1 := ⟨n - 1, by omega⟩
    rw [hd1] at hT
    have ei : ((i + 1 : Nat) : Int) = (i : Int) + 1 := by omega
    have el : ((l + 1 : Nat) : Int) = (l : Int) + 1 := by omega
    have et : tok (n + 1) (c :: s.drop (i + 1)) l = if c = 10 then tok n (s.drop (i + 1)) (l + 1)
      else if c = 32 then tok n (s.drop (i + 1)) l
      else if c = 35 then tok n ((c :: s.drop (i + 1)).dropWhile fun c => decide (c ≠ 10)) l
      else if inS c SG then cons1 (kSIGN, [c], l) (tok n (s.drop (i + 1)) l)
      else if sgn c = [] then .error (l, kSIGN)
      else match judge (c :: (s.drop (i + 1)).takeWhile fun z => inS z (sgn c)) with
        | .error w => .error (l, w)
        | .ok k => cons1 (k, c :: (s.drop (i + 1)).takeWhile fun z => inS z (sgn c), l) (tok n ((s.drop (i + 1)).dropWhile fun z => inS z (sgn c)) l) := rfl
    rw [et] at hT
    by_cases c10 : c = 10
    · subst c10
      rw [if_pos rfl] at hT
      refine .inl ⟨E8 s M.length (i + 1) (l + 1) (some (.str [10])) o5, H8 M acc, s.length - (i + 1), ?_, by omega, i + 1, acc, l + 1, n, _, _, by omega, rfl, by omega, by omega, hT, rfl, rfl⟩
      simp only [E8, ei, el]
      generalize H8 M acc = H at *
      simp -implicitDefEqProofs [b8, atI_at, hc, aug_int]
    rw [if_neg c10] at hT
    have n10 : (c == 10) = false := beq_eq_false_iff_ne.mpr c10
    by_cases c32 : c = 32
    · subst c32
      rw [if_pos rfl] at hT
      refine .inl ⟨E8 s M.length (i + 1) l (some (.str [32])) o5, H8 M acc, s.length - (i + 1), ?_, by omega, i + 1, acc, l, n, _, _, by omega, rfl, by omega, by omega, hT, rfl, rfl⟩
      simp only [E8, ei]
      generalize H8 M acc = H at *
      simp -implicitDefEqProofs [b8, atI_at, hc, aug_int]
    rw [if_neg c32] at hT
    have n32 : (c == 32) = false := beq_eq_false_iff_ne.mpr c32
    by_cases c35 : c = 35
    · subst c35
      rw [if_pos rfl, ← hd1] at hT
      have co := comment_ok (s := s) (i := i) (M := H8 M acc) (d := d) hC (by omega) hi
      have tl := tw_len (p := fun c => decide (c ≠ 10)) (s.drop i)
      rw [List.length_drop] at tl
      have tp1 : 0 < ((s.drop i).takeWhile fun c => decide (c ≠ 10)).length := by
        rw [hd1, List.takeWhile_cons]
        simp
      rw [← drop_tw, List.drop_drop] at hT
      generalize hK : ((s.drop i).takeWhile fun c => decide (c ≠ 10)).length = K at *
      refine .inl ⟨E8 s M.length (i + K) l (some (.str [35])) o5, H8 M acc, s.length - (i + K), ?_, by omega, i + K, acc, l, n, _, _, by omega, rfl, by omega, by omega, hT, rfl, rfl⟩
      simp only [E8]
      generalize H8 M acc = H at *
      generalize ((i + K : Nat) : Int) = Z at *
      simp -implicitDefEqProofs [b8, atI_at, hc, co]
    rw [if_neg c35] at hT
    have n35 : (c == 35) = false := beq_eq_false_iff_ne.mpr c35
    cases hg : inS c SG with
    | true =>
      rw [hg, if_pos rfl, pre_cons] at hT
      refine .inl ⟨E8 s M.length (i + 1) l (some (.str [c])) o5, H8 M (acc ++ [(kSIGN, [c], l)]), s.length - (i + 1), ?_, by omega, i + 1, acc ++ [(kSIGN, [c], l)], l, n, _, _, by omega, rfl, by simp; omega, by omega, hT, rfl, rfl⟩
      have s1 := H8_at (M := M) (acc := acc)
      have s2 := H8_set (M := M) (acc := acc) (t := (kSIGN, [c], l))
      have e3 : tD (kSIGN, [c], l) = .tup [.str kSIGN, .str [c], .int (l : Nat)] := rfl
      rw [e3] at s2
      have lA : (acc.map tD).length < 16777216 := by rw [List.length_map]; exact lacc
      simp only [E8, ei]
      generalize H8 M (acc ++ [(kSIGN, [c], l)]) = H2 at *
      generalize H8 M acc = H at *
      generalize acc.map tD = A at *
      simp -implicitDefEqProofs [b8, atI_at, hc, n10, n32, n35, in_any, hg, s1, s2, lim, lA, aug_int]
    | false =>
      rw [hg, if_neg (by decide)] at hT
      have so := sgn_ok (c := c) (M := H8 M acc) (d := d) hC (by omega)
      by_cases h0 : sgn c = []
      · rw [if_pos h0] at hT
        rw [h0] at so
        refine .inr ⟨l, kSIGN, E8 s M.length i l (some (.str [c])) o5, H8 M acc, ?_, hT.symm, H8_take⟩
        generalize H8 M acc = H at *
        simp -implicitDefEqProofs [b8, atI_at, hc, n10, n32, n35, in_any, hg, so, xc0, zipF]
      · rw [if_neg h0] at hT
        have s0 : (sgn c == []) = false := beq_eq_false_iff_ne.mpr h0
        have re := rowend_ok (s := s) (i := i) (M := H8 M acc) (d := d) hC (by omega) hc
        have tl := tw_len (p := fun z => inS z (sgn c)) (s.drop (i + 1))
        rw [List.length_drop] at tl
        have ju := judge_ok (c := c) (r := (s.drop (i + 1)).takeWhile fun z => inS z (sgn c)) (l := l) (M := H8 M acc) (d := d) hC (by omega) (fun z hz => tw_all (p := fun z => inS z (sgn c)) hz)
        have cu : cutL s (some (i : Int)) (some ((i + 1 + ((s.drop (i + 1)).takeWhile fun z => inS z (sgn c)).length : Nat) : Int)) = c :: (s.drop (i + 1)).takeWhile fun z => inS z (sgn c) := by
          have q := cutL_mid (xs := s) (i := i) (k := 1 + ((s.drop (i + 1)).takeWhile fun z => inS z (sgn c)).length) (by omega)
          rw [← Nat.add_assoc] at q
          rw [q, hd1, Nat.add_comm 1]
          show c :: (s.drop (i + 1)).take _ = _
          rw [take_tw]
        have dr : s.drop (i + 1 + ((s.drop (i + 1)).takeWhile fun z => inS z (sgn c)).length) = (s.drop (i + 1)).dropWhile fun z => inS z (sgn c) := by
          rw [← drop_tw, List.drop_drop]
        rw [← dr] at hT
        generalize hW : (c :: (s.drop (i + 1)).takeWhile fun z => inS z (sgn c)) = W at *
        generalize ((s.drop (i + 1)).takeWhile fun z => inS z (sgn c)).length = K at *
        cases hj : judge W with
        | error w =>
          rw [hj] at hT ju
          dsimp only at hT ju
          refine .inr ⟨l, w, E8 s M.length i l (some (.str [c])) (some (.int (i + 1 + K : Nat))), H8 M acc, ?_, hT.symm, H8_take⟩
          have s1 := H8_at (M := M) (acc := acc)
          generalize H8 M acc = H at *
          generalize ((i + 1 + K : Nat) : Int) = Z at *
          simp -implicitDefEqProofs [b8, atI_at, hc, n10, n32, n35, in_any, hg, so, s0, re, cu, ju, s1]
        | ok kd =>
          rw [hj] at hT ju
          dsimp only at hT ju
          rw [pre_cons] at hT
          refine .inl ⟨E8 s M.length (i + 1 + K) l (some (.str [c])) (some (.int (i + 1 + K : Nat))), H8 M (acc ++ [(kd, W, l)]), s.length - (i + 1 + K), ?_, by omega, i + 1 + K, acc ++ [(kd, W, l)], l, n, _, _, by omega, rfl, by simp; omega, by omega, hT, rfl, rfl⟩
          have s1 := H8_at (M := M) (acc := acc)
          have s2 := H8_set (M := M) (acc := acc) (t := (kd, W, l))
          have e3 : tD (kd, W, l) = .tup [.str kd, .str W, .int (l : Nat)] := rfl
          rw [e3] at s2
          have lA : (acc.map tD).length < 16777216 := by rw [List.length_map]; exact lacc
          simp only [E8]
          generalize H8 M (acc ++ [(kd, W, l)]) = H2 at *
          generalize H8 M acc = H at *
          generalize acc.map tD = A at *
          generalize ((i + 1 + K : Nat) : Int) = Z at *
          simp -implicitDefEqProofs [b8, atI_at, hc, n10, n32, n35, in_any, hg, so, s0, re, cu, ju, s1, s2, lim, lA]
  · left
    have e : i = s.length := by omega
    subst e
    refine ⟨by simp -implicitDefEqProofs [t8], s.length, acc, l, o4, o5, ?_, rfl, rfl⟩
    rw [← hT, List.drop_length]
    cases n <;> simp [tok, pre]
/-- words_of -/
theorem words_ok (hM : Cl M) (hd : 4 < d) (hs : s.length < lim) : R.f d 8 [.str s] M = match tok s.length s 1 with
    | .ok ts => .ok (.tup (ts.map tD)) M
    | .error (l, w) => bad l w M := by
  obtain ⟨d, rfl⟩ : ∃ e, d = e + 1 := ⟨d - 1, by omega⟩
  have key := wh_exF (c := ⟨d, none⟩) (t := t8) (b := b8) (J8 s M (tok s.length s 1)) (fun r => ∃ l w ρ2 M2, r = .exn 0 [("line", .int ((l : Nat) : Int)), ("word", .str w)] ρ2 M2 ∧ tok s.length s 1 = .error (l, w) ∧ M2.take M.length = M)
    (fun ρ M' => ∃ at' acc l o4 o5, tok s.length s 1 = .ok acc ∧ M' = H8 M acc ∧ ρ = E8 s M.length at' l o4 o5)
    (fun k ρ M' h => by
      rcases turn8 (d := d) hM (by omega) hs k ρ M' h with h | ⟨e, h | ⟨l, w, ρ2, M2, h1, h2, h3⟩⟩
      · exact .inl h
      · exact .inr (.inl ⟨e, .inl h⟩)
      · exact .inr (.inr ⟨e, 0, _, ρ2, M2, h1, l, w, ρ2, M2, rfl, h2, h3⟩)) s.length (E8 s M.length 0 1 none none) (H8 M [])
    ⟨0, [], 1, s.length, none, none, Nat.zero_le _, rfl, Nat.le_refl _, Nat.le_refl _, pre_nil _, rfl, rfl⟩
  rw [call_eq (t := f_8) rfl rfl]
  have eb : f_8.body = [.set 1 (.lst true []), .set 2 (.con (.int 0)), .set 3 (.con (.int 1)), .wh t8 b8, .ret (.fn false .tuple [.var 1])] := rfl
  show endF true M.length (R.ss ⟨d, none⟩ f_8.body [some (.str s), none, none, none, none, none] M) = _
  have f1 : R.ss ⟨d, none⟩ f_8.body [some (.str s), none, none, none, none, none] M = R.ss ⟨d, none⟩ [.wh t8 b8, .ret (.fn false .tuple [.var 1])] (E8 s M.length 0 1 none none) (H8 M []) := by
    rw [eb]
    generalize t8 = T at *
    generalize b8 = B at *
    simp -implicitDefEqProofs [E8, H8]
  rw [f1, ss_cons']
  rcases key with ⟨ρ', M', e1, at', acc, l, o4, o5, hT, rfl, rfl⟩ | ⟨_, _, _, _, _, _, _, h, _⟩ | ⟨n, fs, ρ2, M2, e1, l, w, ρ3, M3, h, hT, ht⟩
  · rw [e1, hT]
    have s1 := H8_at (M := M) (acc := acc)
    have s2 := H8_take (M := M) (acc := acc)
    dsimp only
    rw [← endF_vC (M := M) (M' := H8 M acc) (d := .tup (acc.map tD)) (unds_of fun x hx => by
      obtain ⟨t, _, rfl⟩ := List.mem_map.mp hx
      rfl) s2 hM]
    generalize H8 M acc = H at *
    simp -implicitDefEqProofs [s1]
  · cases h
  · rw [e1, hT]
    injection h with h1 h2 h3 h4
    subst h1
    subst h2
    exact bad_end (by rw [h4]; exact ht) hM
end
end LK

set_option Elab.async false
set_option linter.all false
set_option maxRecDepth 1000000
set_option maxHeartbeats 4000000
namespace LK
open LX
theorem sm_dis : ∀ c ∈ SM, c ∉ FG ∧ c ∉ CO := by decide
theorem fg_dis : ∀ c ∈ FG, c ∉ SM ∧ c ∉ CO := by decide
theorem co_dis : ∀ c ∈ CO, c ∉ SM ∧ c ∉ FG := by decide
theorem sm_no {c : Nat} (h : inS c SM = true) : inS c FG = false ∧ inS c CO = false := by
  have q := sm_dis c (of_decide_eq_true h)
  exact ⟨decide_eq_false q.1, decide_eq_false q.2⟩
theorem fg_no {c : Nat} (h : inS c FG = true) : inS c SM = false ∧ inS c CO = false := by
  have q := fg_dis c (of_decide_eq_true h)
  exact ⟨decide_eq_false q.1, decide_eq_false q.2⟩
def kd (w : List Nat) : List Nat :=
  match w with
  | [] => []
  | c :: _ => if inS c FG then kNUM else if inS c CO then kCOL else if kept w then kKEPT else kNAME
section
variable {M : MH} {d : Nat} {s : List Nat}
theorem kind_ok {c : Nat} {r : List Nat} (hM : Cl M) (hd : 0 < d) : R.f d 16 [.str (c :: r)] M = .ok (.str (kd (c :: r))) M := by
  obtain ⟨d, rfl⟩ : ∃ e, d = e + 1 := ⟨d - 1, by omega⟩
  have fin : ∀ v : D, D.und 0 v = true → endF true M.length (.rt v M) = .ok v M := fun s h => endF_vC h (by simp) hM
  have ik := in_kept (M := M) (w := c :: r)
  rw [call_eq (t := f_16) rfl rfl, ← fin _ rfl]
  have e : kd (c :: r) = if inS c FG then kNUM else if inS c CO then kCOL else if kept (c :: r) then kKEPT else kNAME := rfl
  rw [e]
  cases h1 : inS c FG with
  | true => simp -implicitDefEqProofs [f_16, startE, atI_0, in_any, h1]
  | false =>
    cases h2 : inS c CO with
    | true => simp -implicitDefEqProofs [f_16, startE, atI_0, in_any, h1, h2]
    | false =>
      cases h3 : kept (c :: r) with
      | true =>
        rw [h3] at ik
        simp -implicitDefEqProofs [f_16, startE, atI_0, in_any, h1, h2, ik, lim]
      | false =>
        rw [h3] at ik
        simp -implicitDefEqProofs [f_16, startE, atI_0, in_any, h1, h2, ik, lim]
def cb : List S := [.aug 4 .Add (.con (.int 1))]
def ct : E := .and (.cmp .Lt (.var 4) (.fn false .len [.var 0])) (.cmp .NotEq (.ix (.var 0) (.var 4)) (.con (.str [10])))
def rb : List S := [.set 7 (.bin false .Add (.var 7) (.ix (.var 0) (.var 4))), .aug 4 .Add (.con (.int 1))]
def rt : E := .and (.cmp .Lt (.var 4) (.fn false .len [.var 0])) (.cmp .In (.ix (.var 0) (.var 4)) (.var 6))
def KV : List (List Nat × D) := [(kNAME, (.int 8)), (kKEPT, (.int 8)), (kNUM, (.int 6)), (kCOL, (.int 24))]
def tl17 : List S := [.set 8 (.call 16 [.var 7]), .ite (.cmp .Gt (.fn false .len [.var 7]) (.dix KV (.var 8))) [.ret (.tup [.con .non, .tup [.var 3, .con (.str kLONG)]])] [], .ite (.and (.cmp .Eq (.var 8) (.con (.str kNUM))) (.and (.cmp .Eq (.ix (.var 7) (.con (.int 0))) (.con (.str [48]))) (.cmp .NotEq (.var 7) (.con (.str [48]))))) [.ret (.tup [.con .non, .tup [.var 3, .con (.str kNUM)]])] [], .expr (.meth .append (.var 2) [.tup [.var 8, .var 7, .var 3]])]
def sg17 : E := .ite (.cmp .In (.var 5) (.var 1)) (.bin false .Add (.var 1) (.con (.str FG))) (.ite (.cmp .In (.var 5) (.con (.str FG))) (.con (.str FG)) (.con (.str CO)))
def b17 : List S := [.set 5 (.ix (.var 0) (.var 4)), .ite (.cmp .Eq (.var 5) (.con (.str [10]))) [.aug 3 .Add (.con (.int 1)), .aug 4 .Add (.con (.int 1))] [.ite (.cmp .Eq (.var 5) (.con (.str [32]))) [.aug 4 .Add (.con (.int 1))] [.ite (.cmp .Eq (.var 5) (.con (.str [35]))) [.wh ct cb] [.ite (.cmp .In (.var 5) (.con (.str SG))) [.expr (.meth .append (.var 2) [.tup [.con (.str kSIGN), .var 5, .var 3]]), .aug 4 .Add (.con (.int 1))] (.set 6 sg17 :: .ite (.cmp .NotIn (.var 5) (.var 6)) [.ret (.tup [.con .non, .tup [.var 3, .con (.str kSIGN)]])] [] :: .set 7 (.con (.str [])) :: .wh rt rb :: tl17)]]]]
def t17 : E := .cmp .Lt (.var 4) (.fn false .len [.var 0])
abbrev E17 (s : List Nat) (B l at' : Nat) (o5 o6 o7 o8 : Option D) : LX.Env := [some (.str s), some (.str SM), some (.ref B), some (.int (l : Nat)), some (.int (at' : Nat)), o5, o6, o7, o8]
theorem ct_ok {B l i : Nat} {o5 o6 o7 o8 : Option D} (hi : i ≤ s.length) : R.s ⟨d, none⟩ (.wh ct cb) (E17 s B l i o5 o6 o7 o8) M = .nx (E17 s B l (i + ((s.drop i).takeWhile fun c => decide (c ≠ 10)).length) o5 o6 o7 o8) M :=
  run_ct (M := M) (s := s) (c := ⟨d, none⟩) (p := fun c => decide (c ≠ 10)) (mk := fun i => E17 s B l i o5 o6 o7 o8)
    (fun i hi z hz => by
      have hb : ((([z] : List Nat) == [10]) = decide (z = 10)) := by rw [Bool.eq_iff_iff, beq_iff_eq, decide_eq_true_eq]; simp
      have hl : (i : Int) < (s.length : Int) := by omega
      simp -implicitDefEqProofs [ct, atI_at, hz, hl]
      by_cases h : z = 10 <;> simp [h]) (by simp -implicitDefEqProofs [ct]) (fun i hi => by
      have e : ((i + 1 : Nat) : Int) = (i : Int) + 1 := by omega
      simp only [E17, e]
      simp -implicitDefEqProofs [cb, aug_int]) hi
/-- the row of like signs, gathered -/
theorem rt_ok {B l : Nat} {G : List Nat} {o5 o8 : Option D} (hs : s.length < lim) : ∀ (n i : Nat) (w : List Nat), i + n = s.length → w.length ≤ i → R.s ⟨d, none⟩ (.wh rt rb) (E17 s B l i o5 (some (.str G)) (some (.str w)) o8) M = .nx (E17 s B l (i + ((s.drop i).takeWhile fun z => inS z G).length) o5 (some (.str G)) (some (.str (w ++ (s.drop i).takeWhile fun z => inS z G))) o8) M
  | 0, i, w, h, _ => by
    have e : i = s.length := by omega
    subst e
    rw [st_wh, List.drop_length]
    have : R.e ⟨d, none⟩ rt (E17 s B l s.length o5 (some (.str G)) (some (.str w)) o8) M = .ok (.bl false) M := by simp -implicitDefEqProofs [rt]
    rw [this]
    show SRes.nx _ M = .nx _ M
    rw [List.takeWhile_nil, List.append_nil]
    rfl
  | n + 1, i, w, h, hw => by
    have hi : i < s.length := by omega
    have hz : s[i]? = some s[i] := List.getElem?_eq_getElem hi
    have hl : (i : Int) < (s.length : Int) := by omega
    have ht : R.e ⟨d, none⟩ rt (E17 s B l i o5 (some (.str G)) (some (.str w)) o8) M = .ok (.bl (inS s[i] G)) M := by
      simp -implicitDefEqProofs [rt, atI_at, hz, hl, in_any]
    rw [List.drop_eq_getElem_cons hi, List.takeWhile_cons, st_wh, ht]
    cases hp : inS s[i] G with
    | false =>
      show SRes.nx _ M = .nx _ M
      rw [if_neg (by decide), List.append_nil]
      rfl
    | true =>
      have ad : binD false M .Add (.str w) (.str [s[i]]) = .ok (.str (w ++ [s[i]])) M := add_str (by show w.length + 1 ≤ lim; omega)
      have e : ((i + 1 : Nat) : Int) = (i : Int) + 1 := by omega
      have hb : R.ss ⟨d, none⟩ rb (E17 s B l i o5 (some (.str G)) (some (.str w)) o8) M = .nx (E17 s B l (i + 1) o5 (some (.str G)) (some (.str (w ++ [s[i]]))) o8) M := by
        simp only [E17, e]
        generalize w ++ [s[i]] = W at *
        simp -implicitDefEqProofs [rb, atI_at, hz, ad, aug_int]
      simp -implicitDefEqProofs only [sbind_ok, asBl_bl, hb, ssbind_nx]
      rw [rt_ok hs n (i + 1) (w ++ [s[i]]) (by omega) (by simp; omega), if_pos trivial, List.append_assoc]
      show SRes.nx (E17 s B l (i + 1 + ((s.drop (i + 1)).takeWhile fun z => inS z G).length) o5 _ (some (.str (w ++ (s[i] :: (s.drop (i + 1)).takeWhile fun z => inS z G)))) o8) M = .nx (E17 s B l (i + (((s.drop (i + 1)).takeWhile fun z => inS z G).length + 1)) o5 _ _ o8) M
      rw [show ∀ k, i + 1 + k = i + (k + 1) from fun k => by omega]
theorem sg_ok {c : Nat} {B l i : Nat} {o6 o7 o8 : Option D} : R.e ⟨d, none⟩ sg17 (E17 s B l i (some (.str [c])) o6 o7 o8) M = .ok (.str (if sgn c = [] then CO else sgn c)) M ∧ (sgn c = [] → inS c CO = false) ∧ (sgn c ≠ [] → inS c (sgn c) = true) := by
  have ad : binD false M .Add (.str SM) (.str FG) = .ok (.str (SM ++ FG)) M := add_str (by decide)
  have up : ∀ {t u : List Nat}, inS c t = true → inS c (t ++ u) = true := fun h => decide_eq_true (List.mem_append_left _ (of_decide_eq_true h))
  unfold sgn
  cases h1 : inS c SM with
  | true =>
    refine ⟨?_, fun h => by (have := congrArg List.length h; simp at this), fun _ => up h1⟩
    simp -implicitDefEqProofs [sg17, in_any, h1, ad]
  | false =>
    cases h2 : inS c FG with
    | true =>
      refine ⟨?_, fun h => (by simp at h), fun _ => h2⟩
      simp -implicitDefEqProofs [sg17, in_any, h1, h2]
    | false =>
      cases h3 : inS c CO with
      | true =>
        refine ⟨?_, fun h => (by simp at h), fun _ => h3⟩
        simp -implicitDefEqProofs [sg17, in_any, h1, h2, h3]
      | false =>
        refine ⟨?_, fun _ => rfl, fun h => (by simp at h)⟩
        simp -implicitDefEqProofs [sg17, in_any, h1, h2, h3]
/-- the tail: is the row right? -/
theorem tail_ok {c : Nat} {r : List Nat} {l i : Nat} {acc : List Tk} {o5 o6 o8 : Option D} (hM : Cl M) (hd : 0 < d) (hg : sgn c ≠ []) (ha : acc.length < 16777216) : R.ss ⟨d, none⟩ tl17 (E17 s M.length l i o5 o6 (some (.str (c :: r))) o8) (H8 M acc) = match judge (c :: r) with
    | .ok k => .nx (E17 s M.length l i o5 o6 (some (.str (c :: r))) (some (.str k))) (H8 M (acc ++ [(k, c :: r, l)]))
    | .error w => .rt (.tup [.non, .tup [.int (l : Nat), .str w]]) (H8 M acc) := by
  have hC := H8_cl (acc := acc) hM
  have kk := kind_ok (c := c) (r := r) (M := H8 M acc) (d := d) hC hd
  have ej : judge (c :: r) = if inS c SM then (if 8 < (c :: r).length then .error kLONG else .ok (if kept (c :: r) then kKEPT else kNAME))
    else if inS c FG then (if 6 < (c :: r).length then .error kLONG else if decide (c = 48) && decide (r ≠ []) then .error kNUM else .ok kNUM)
    else if 24 < (c :: r).length then .error kLONG else .ok kCOL := rfl
  have ek : kd (c :: r) = if inS c FG then kNUM else if inS c CO then kCOL else if kept (c :: r) then kKEPT else kNAME := rfl
  have s1 := H8_at (M := M) (acc := acc)
  have lA : (acc.map tD).length < 16777216 := by rw [List.length_map]; exact ha
  rw [ej]
  rw [ek] at kk
  have d1 : dixD KV (.str kNAME) = some (.int 8) := rfl
  have d2 : dixD KV (.str kKEPT) = some (.int 8) := rfl
  have d3 : dixD KV (.str kNUM) = some (.int 6) := rfl
  have d4 : dixD KV (.str kCOL) = some (.int 24) := rfl
  cases h1 : inS c SM with
  | true =>
    obtain ⟨h2, h3⟩ := sm_no h1
    rw [h2, h3] at kk
    rw [if_neg (by decide), if_neg (by decide)] at kk
    rw [if_pos rfl]
    by_cases h8 : 8 < (c :: r).length
    · have h8' : (8 : Int) < (r.length : Int) + 1 := by simp at h8; omega
      rw [if_pos h8]
      dsimp only
      generalize H8 M acc = H at *
      cases hk : kept (c :: r) with
      | true =>
        rw [hk, if_pos rfl] at kk
        simp -implicitDefEqProofs [tl17, kk, d2, h8', lim]
      | false =>
        rw [hk, if_neg (by decide)] at kk
        simp -implicitDefEqProofs [tl17, kk, d1, h8', lim]
    · have h8' : ¬ (8 : Int) < (r.length : Int) + 1 := by simp at h8; omega
      rw [if_neg h8]
      dsimp only
      cases hk : kept (c :: r) with
      | true =>
        rw [hk, if_pos rfl] at kk
        have s2 := H8_set (M := M) (acc := acc) (t := (kKEPT, c :: r, l))
        have e3 : tD (kKEPT, c :: r, l) = .tup [.str kKEPT, .str (c :: r), .int (l : Nat)] := rfl
        rw [e3] at s2
        rw [if_pos rfl]
        generalize H8 M (acc ++ [(kKEPT, c :: r, l)]) = H2 at *
        generalize H8 M acc = H at *
        generalize acc.map tD = A at *
        simp -implicitDefEqProofs [tl17, kk, d2, h8', lim, s1, s2, lA]
      | false =>
        rw [hk, if_neg (by decide)] at kk
        have s2 := H8_set (M := M) (acc := acc) (t := (kNAME, c :: r, l))
        have e3 : tD (kNAME, c :: r, l) = .tup [.str kNAME, .str (c :: r), .int (l : Nat)] := rfl
        rw [e3] at s2
        rw [if_neg (by decide)]
        generalize H8 M (acc ++ [(kNAME, c :: r, l)]) = H2 at *
        generalize H8 M acc = H at *
        generalize acc.map tD = A at *
        simp -implicitDefEqProofs [tl17, kk, d1, h8', lim, s1, s2, lA]
  | false =>
    rw [if_neg (by decide)]
    cases h2 : inS c FG with
    | true =>
      rw [h2, if_pos rfl] at kk
      rw [if_pos rfl]
      by_cases h6 : 6 < (c :: r).length
      · have h6' : (6 : Int) < (r.length : Int) + 1 := by simp at h6; omega
        rw [if_pos h6]
        dsimp only
        generalize H8 M acc = H at *
        simp -implicitDefEqProofs [tl17, kk, d3, h6', lim]
      · have h6' : ¬ (6 : Int) < (r.length : Int) + 1 := by simp at h6; omega
        rw [if_neg h6]
        have s2 := H8_set (M := M) (acc := acc) (t := (kNUM, c :: r, l))
        have e3 : tD (kNUM, c :: r, l) = .tup [.str kNUM, .str (c :: r), .int (l : Nat)] := rfl
        rw [e3] at s2
        by_cases c48 : c = 48
        · subst c48
          by_cases r0 : r = []
          · subst r0
            rw [if_neg (by decide)]
            dsimp only
            generalize H8 M (acc ++ [(kNUM, [48], l)]) = H2 at *
            generalize H8 M acc = H at *
            generalize acc.map tD = A at *
            simp -implicitDefEqProofs [tl17, kk, d3, lim, s1, s2, lA, atI_0]
          · rw [if_pos (by simp [r0])]
            have nb : (r == []) = false := beq_eq_false_iff_ne.mpr r0
            dsimp only
            generalize H8 M acc = H at *
            simp -implicitDefEqProofs [tl17, kk, d3, h6', lim, atI_0, nb, r0]
        · rw [if_neg (by simp [c48])]
          have nb : (c == 48) = false := beq_eq_false_iff_ne.mpr c48
          dsimp only
          generalize H8 M (acc ++ [(kNUM, c :: r, l)]) = H2 at *
          generalize H8 M acc = H at *
          generalize acc.map tD = A at *
          simp -implicitDefEqProofs [tl17, kk, d3, h6', lim, s1, s2, lA, atI_0, nb]
    | false =>
      have h3 : inS c CO = true := by
        cases h3 : inS c CO with
        | true => rfl
        | false =>
          exact absurd (by unfold sgn; rw [h1, h2, h3]; rfl) hg
      rw [h2, h3, if_neg (by decide), if_pos rfl] at kk
      rw [if_neg (by decide)]
      by_cases h24 : 24 < (c :: r).length
      · have h' : (24 : Int) < (r.length : Int) + 1 := by simp at h24; omega
        rw [if_pos h24]
        dsimp only
        generalize H8 M acc = H at *
        simp -implicitDefEqProofs [tl17, kk, d4, h', lim]
      · have h' : ¬ (24 : Int) < (r.length : Int) + 1 := by simp at h24; omega
        rw [if_neg h24]
        have s2 := H8_set (M := M) (acc := acc) (t := (kCOL, c :: r, l))
        have e3 : tD (kCOL, c :: r, l) = .tup [.str kCOL, .str (c :: r), .int (l : Nat)] := rfl
        rw [e3] at s2
        dsimp only
        generalize H8 M (acc ++ [(kCOL, c :: r, l)]) = H2 at *
        generalize H8 M acc = H at *
        generalize acc.map tD = A at *
        simp -implicitDefEqProofs [tl17, kk, d4, h', lim, s1, s2, lA]
end
end LK

set_option Elab.async false
set_option linter.all false
set_option maxRecDepth 1000000
set_option maxHeartbeats 4000000
namespace LK
open LX
section
variable {M : MH} {d : Nat} {s : List Nat}
def J17 (s : List Nat) (M : MH) (T : Rt) (k : Nat) (ρ : LX.Env) (M' : MH) : Prop := ∃ at' acc l n o5 o6 o7 o8, at' ≤ s.length ∧ k = s.length - at' ∧ acc.length ≤ at' ∧ s.length - at' ≤ n ∧ pre acc (tok n (s.drop at') l) = T ∧ M' = H8 M acc ∧ ρ = E17 s M.length l at' o5 o6 o7 o8
theorem sbind_id (r : SRes) : (r.sbind fun ρ M => .nx ρ M) = r := by cases r <;> rfl
theorem turn17 {T : Rt} (hM : Cl M) (hd : 0 < d) (hs : s.length < lim) (k : Nat) (ρ : LX.Env) (M' : MH) (h : J17 s M T k ρ M') :
    (R.e ⟨d, none⟩ t17 ρ M' = .ok (.bl false) M' ∧ ∃ at' acc l o5 o6 o7 o8, T = .ok acc ∧ M' = H8 M acc ∧ ρ = E17 s M.length l at' o5 o6 o7 o8) ∨
    (R.e ⟨d, none⟩ t17 ρ M' = .ok (.bl true) M' ∧ ((∃ ρ2 M2 k2, R.ss ⟨d, none⟩ b17 ρ M' = .nx ρ2 M2 ∧ k2 < k ∧ J17 s M T k2 ρ2 M2) ∨ ∃ l w acc, R.ss ⟨d, none⟩ b17 ρ M' = .rt (.tup [.non, .tup [.int (l : Nat), .str w]]) (H8 M acc) ∧ T = .error (l, w))) := by
  obtain ⟨i, acc, l, n, o5, o6, o7, o8, hi, rfl, ha, hn, hT, rfl, rfl⟩ := h
  have hC := H8_cl (acc := acc) hM
  have lacc : acc.length < 16777216 := by have : lim = 16777216 := rfl; omega
  by_cases hl : i < s.length
  · right
    have hl' : (i : Int) < (s.length : Int) := by omega
    refine ⟨by simp -implicitDefEqProofs [t17, hl'], ?_⟩
    obtain ⟨c, hc⟩ : ∃ c, s[i]? = some c := ⟨s[i], List.getElem?_eq_getElem hl⟩
    have hd1 : s.drop i = c :: s.drop (i + 1) := by
      rw [List.drop_eq_getElem_cons hl]
      congr 1
      exact (List.getElem?_eq_some_iff.mp hc).2
    obtain ⟨n, rfl⟩ : ∃ m, n = m + 1 := ⟨n - 1, by omega⟩
    rw [hd1] at hT
    have ei : ((i + 1 : Nat) : Int) = (i : Int) + 1 := by omega
    have el : ((l + 1 : Nat) : Int) = (l : Int) + 1 := by omega
    have et : tok (n + 1) (c :: s.drop (i + 1)) l = if c = 10 then tok n (s.drop (i + 1)) (l + 1)
      else if c = 32 then tok n (s.drop (i + 1)) l
      else if c = 35 then tok n ((c :: s.drop (i + 1)).dropWhile fun c => decide (c ≠ 10)) l
      else if inS c SG then cons1 (kSIGN, [c], l) (tok n (s.drop (i + 1)) l)
      else if sgn c = [] then .error (l, kSIGN)
      else match judge (c :: (s.drop (i + 1)).takeWhile fun z => inS z (sgn c)) with
        | .error w => .error (l, w)
        | .ok k => cons1 (k, c :: (s.drop (i + 1)).takeWhile fun z => inS z (sgn c), l) (tok n ((s.drop (i + 1)).dropWhile fun z => inS z (sgn c)) l) := rfl
    rw [et] at hT
    by_cases c10 : c = 10
    · subst c10
      rw [if_pos rfl] at hT
      refine .inl ⟨E17 s M.length (l + 1) (i + 1) (some (.str [10])) o6 o7 o8, H8 M acc, s.length - (i + 1), ?_, by omega, i + 1, acc, l + 1, n, _, _, _, _, by omega, rfl, by omega, by omega, hT, rfl, rfl⟩
      simp only [E17, ei, el]
      generalize H8 M acc = H at *
      simp -implicitDefEqProofs [b17, atI_at, hc, aug_int]
    rw [if_neg c10] at hT
    have n10 : (c == 10) = false := beq_eq_false_iff_ne.mpr c10
    by_cases c32 : c = 32
    · subst c32
      rw [if_pos rfl] at hT
      refine .inl ⟨E17 s M.length l (i + 1) (some (.str [32])) o6 o7 o8, H8 M acc, s.length - (i + 1), ?_, by omega, i + 1, acc, l, n, _, _, _, _, by omega, rfl, by omega, by omega, hT, rfl, rfl⟩
      simp only [E17, ei]
      generalize H8 M acc = H at *
      simp -implicitDefEqProofs [b17, atI_at, hc, aug_int]
    rw [if_neg c32] at hT
    have n32 : (c == 32) = false := beq_eq_false_iff_ne.mpr c32
    by_cases c35 : c = 35
    · subst c35
      rw [if_pos rfl, ← hd1] at hT
      have co := ct_ok (s := s) (i := i) (M := H8 M acc) (d := d) (B := M.length) (l := l) (o5 := some (.str [35])) (o6 := o6) (o7 := o7) (o8 := o8) hi
      have tl := tw_len (p := fun c => decide (c ≠ 10)) (s.drop i)
      rw [List.length_drop] at tl
      have tp1 : 0 < ((s.drop i).takeWhile fun c => decide (c ≠ 10)).length := by
        rw [hd1, List.takeWhile_cons]
        simp
      rw [← drop_tw, List.drop_drop] at hT
      generalize hK : ((s.drop i).takeWhile fun c => decide (c ≠ 10)).length = K at *
      refine .inl ⟨E17 s M.length l (i + K) (some (.str [35])) o6 o7 o8, H8 M acc, s.length - (i + K), ?_, by omega, i + K, acc, l, n, _, _, _, _, by omega, rfl, by omega, by omega, hT, rfl, rfl⟩
      simp only [E17] at co ⊢
      generalize H8 M acc = H at *
      generalize ((i + K : Nat) : Int) = Z at *
      unfold b17
      simp -implicitDefEqProofs [atI_at, hc]
      rw [co]
      rfl
    rw [if_neg c35] at hT
    have n35 : (c == 35) = false := beq_eq_false_iff_ne.mpr c35
    cases hg : inS c SG with
    | true =>
      rw [hg, if_pos rfl, pre_cons] at hT
      refine .inl ⟨E17 s M.length l (i + 1) (some (.str [c])) o6 o7 o8, H8 M (acc ++ [(kSIGN, [c], l)]), s.length - (i + 1), ?_, by omega, i + 1, acc ++ [(kSIGN, [c], l)], l, n, _, _, _, _, by omega, rfl, by simp; omega, by omega, hT, rfl, rfl⟩
      have s1 := H8_at (M := M) (acc := acc)
      have s2 := H8_set (M := M) (acc := acc) (t := (kSIGN, [c], l))
      have e3 : tD (kSIGN, [c], l) = .tup [.str kSIGN, .str [c], .int (l : Nat)] := rfl
      rw [e3] at s2
      have lA : (acc.map tD).length < 16777216 := by rw [List.length_map]; exact lacc
      simp only [E17, ei]
      generalize H8 M (acc ++ [(kSIGN, [c], l)]) = H2 at *
      generalize H8 M acc = H at *
      generalize acc.map tD = A at *
      simp -implicitDefEqProofs [b17, atI_at, hc, n10, n32, n35, in_any, hg, s1, s2, lim, lA, aug_int]
    | false =>
      rw [hg, if_neg (by decide)] at hT
      have f1 : R.ss ⟨d, none⟩ b17 (E17 s M.length l i o5 o6 o7 o8) (H8 M acc) = R.ss ⟨d, none⟩ (.set 6 sg17 :: .ite (.cmp .NotIn (.var 5) (.var 6)) [.ret (.tup [.con .non, .tup [.var 3, .con (.str kSIGN)]])] [] :: .set 7 (.con (.str [])) :: .wh rt rb :: tl17) (E17 s M.length l i (some (.str [c])) o6 o7 o8) (H8 M acc) := by
        unfold b17
        generalize sg17 = G at *
        generalize tl17 = T1 at *
        generalize rt = T2 at *
        generalize rb = T3 at *
        generalize H8 M acc = H at *
        simp -implicitDefEqProofs [atI_at, hc, n10, n32, n35, in_any, hg, sbind_id]
      obtain ⟨g1, g2, g3⟩ := sg_ok (M := H8 M acc) (d := d) (s := s) (c := c) (B := M.length) (l := l) (i := i) (o6 := o6) (o7 := o7) (o8 := o8)
      by_cases h0 : sgn c = []
      · rw [if_pos h0] at hT g1
        refine .inr ⟨l, kSIGN, acc, ?_, hT.symm⟩
        have g2' := g2 h0
        rw [f1]
        generalize sg17 = G at *
        generalize tl17 = T1 at *
        generalize rt = T2 at *
        generalize rb = T3 at *
        generalize H8 M acc = H at *
        simp -implicitDefEqProofs [g1, notin_any, g2', lim]
      · rw [if_neg h0] at hT g1
        have g3' := g3 h0
        have ro := rt_ok (M := H8 M acc) (d := d) (s := s) (B := M.length) (l := l) (G := sgn c) (o5 := some (.str [c])) (o8 := o8) hs (s.length - i) i [] (by omega) (Nat.zero_le _)
        rw [List.nil_append] at ro
        have ew : (s.drop i).takeWhile (fun z => inS z (sgn c)) = c :: (s.drop (i + 1)).takeWhile fun z => inS z (sgn c) := by
          rw [hd1, List.takeWhile_cons, g3', if_pos rfl]
        rw [ew, List.length_cons] at ro
        have tl := tw_len (p := fun z => inS z (sgn c)) (s.drop (i + 1))
        rw [List.length_drop] at tl
        have dr : s.drop (i + (((s.drop (i + 1)).takeWhile fun z => inS z (sgn c)).length + 1)) = (s.drop (i + 1)).dropWhile fun z => inS z (sgn c) := by
          rw [← drop_tw, List.drop_drop]
          congr 1
          omega
        rw [← dr] at hT
        have ta := tail_ok (M := M) (d := d) (s := s) (c := c) (r := (s.drop (i + 1)).takeWhile fun z => inS z (sgn c)) (l := l) (i := i + (((s.drop (i + 1)).takeWhile fun z => inS z (sgn c)).length + 1)) (acc := acc) (o5 := some (.str [c])) (o6 := some (.str (sgn c))) (o8 := o8) hM hd h0 lacc
        have f2 : R.ss ⟨d, none⟩ b17 (E17 s M.length l i o5 o6 o7 o8) (H8 M acc) = R.ss ⟨d, none⟩ tl17 (E17 s M.length l (i + (((s.drop (i + 1)).takeWhile fun z => inS z (sgn c)).length + 1)) (some (.str [c])) (some (.str (sgn c))) (some (.str (c :: (s.drop (i + 1)).takeWhile fun z => inS z (sgn c)))) o8) (H8 M acc) := by
          rw [f1]
          generalize (c :: (s.drop (i + 1)).takeWhile fun z => inS z (sgn c)) = W at *
          generalize i + (((s.drop (i + 1)).takeWhile fun z => inS z (sgn c)).length + 1) = Z at *
          have f3 : R.ss ⟨d, none⟩ (.set 6 sg17 :: .ite (.cmp .NotIn (.var 5) (.var 6)) [.ret (.tup [.con .non, .tup [.var 3, .con (.str kSIGN)]])] [] :: .set 7 (.con (.str [])) :: .wh rt rb :: tl17) (E17 s M.length l i (some (.str [c])) o6 o7 o8) (H8 M acc) = R.ss ⟨d, none⟩ (.wh rt rb :: tl17) (E17 s M.length l i (some (.str [c])) (some (.str (sgn c))) (some (.str [])) o8) (H8 M acc) := by
            generalize sg17 = G at *
            generalize tl17 = T1 at *
            generalize rt = T2 at *
            generalize rb = T3 at *
            generalize sgn c = Y at *
            generalize H8 M acc = H at *
            simp -implicitDefEqProofs [g1, notin_any, g3']
          rw [f3, ss_cons', ro]
          rfl
        generalize hW : (c :: (s.drop (i + 1)).takeWhile fun z => inS z (sgn c)) = W at *
        generalize ((s.drop (i + 1)).takeWhile fun z => inS z (sgn c)).length = K at *
        rw [f2, ta]
        cases hj : judge W with
        | error w =>
          rw [hj] at hT
          exact .inr ⟨l, w, acc, rfl, hT.symm⟩
        | ok kd =>
          rw [hj] at hT
          dsimp only at hT
          rw [pre_cons] at hT
          exact .inl ⟨_, _, s.length - (i + (K + 1)), rfl, by omega, i + (K + 1), acc ++ [(kd, W, l)], l, n, _, _, _, _, by omega, rfl, by simp; omega, by omega, hT, rfl, rfl⟩
  · left
    have e : i = s.length := by omega
    subst e
    refine ⟨by simp -implicitDefEqProofs [t17], s.length, acc, l, o5, o6, o7, o8, ?_, rfl, rfl⟩
    rw [← hT, List.drop_length]
    cases n <;> simp [tok, pre]
/-- _law_words -/
theorem lwords_ok (hM : Cl M) (hd : 1 < d) (hs : s.length < lim) : (∃ ts, tok s.length s 1 = .ok ts ∧ R.f d 17 [.str s] M = .ok (.tup [.ref M.length, .non]) (H8 M ts)) ∨ ∃ l w acc, tok s.length s 1 = .error (l, w) ∧ R.f d 17 [.str s] M = .ok (.tup [.non, .tup [.int (l : Nat), .str w]]) (H8 M acc) := by
  obtain ⟨d, rfl⟩ : ∃ e, d = e + 1 := ⟨d - 1, by omega⟩
  have key := wh_exF (c := ⟨d, none⟩) (t := t17) (b := b17) (J17 s M (tok s.length s 1)) (fun r => ∃ (l : Nat) (w : List Nat) (acc : List Tk), r = .rt (.tup [.non, .tup [.int (l : Nat), .str w]]) (H8 M acc) ∧ tok s.length s 1 = .error (l, w))
    (fun ρ M' => ∃ at' acc l o5 o6 o7 o8, tok s.length s 1 = .ok acc ∧ M' = H8 M acc ∧ ρ = E17 s M.length l at' o5 o6 o7 o8)
    (fun k ρ M' h => by
      rcases turn17 (d := d) hM (by omega) hs k ρ M' h with h | ⟨e, h | ⟨l, w, acc, h1, h2⟩⟩
      · exact .inl h
      · exact .inr (.inl ⟨e, .inl h⟩)
      · exact .inr (.inl ⟨e, .inr ⟨_, _, h1, l, w, acc, rfl, h2⟩⟩)) s.length (E17 s M.length 1 0 none none none none) (H8 M [])
    ⟨0, [], 1, s.length, none, none, none, none, Nat.zero_le _, rfl, Nat.le_refl _, Nat.le_refl _, pre_nil _, rfl, rfl⟩
  rw [call_eq (t := f_17) rfl rfl]
  have eb : f_17.body = [.set 1 (.con (.str SM)), .set 2 (.lst true []), .set 3 (.con (.int 1)), .set 4 (.con (.int 0)), .wh t17 b17, .ret (.tup [.var 2, .con .non])] := rfl
  have f1 : R.ss ⟨d, none⟩ f_17.body [some (.str s), none, none, none, none, none, none, none, none] M = R.ss ⟨d, none⟩ [.wh t17 b17, .ret (.tup [.var 2, .con .non])] (E17 s M.length 1 0 none none none none) (H8 M []) := by
    rw [eb]
    generalize t17 = T at *
    generalize b17 = B at *
    simp -implicitDefEqProofs [E17, H8]
  show (∃ ts, _ ∧ endF false M.length (R.ss ⟨d, none⟩ f_17.body [some (.str s), none, none, none, none, none, none, none, none] M) = _) ∨ ∃ l w acc, _ ∧ endF false M.length (R.ss ⟨d, none⟩ f_17.body [some (.str s), none, none, none, none, none, none, none, none] M) = _
  rw [f1, ss_cons']
  rcases key with ⟨ρ', M', e1, at', acc, l, o5, o6, o7, o8, hT, rfl, rfl⟩ | ⟨_, _, e1, l, w, acc, h, hT⟩ | ⟨_, _, _, _, _, _, _, _, h, _⟩
  · refine .inl ⟨acc, hT, ?_⟩
    rw [e1]
    generalize H8 M acc = H at *
    simp -implicitDefEqProofs [lim]
    rfl
  · refine .inr ⟨l, w, acc, hT, ?_⟩
    injection h with h1 h2
    subst h1
    subst h2
    rw [e1]
    rfl
  · cases h
end
end LK

set_option Elab.async false
set_option linter.all false
set_option maxRecDepth 1000000
set_option maxHeartbeats 4000000
namespace LX
open PySem
def pS (w : List Nat) : PyData := .str ⟨w.toArray⟩
def pP (p : List Nat × List Nat) : PyData := .tuple [pS p.1, pS p.2]
def asc (w : List Nat) : Bool := w.all fun c => decide (c < 128)
theorem asc_ok {w : List Nat} (h : asc w = true) : PyData.strOk ⟨w.toArray⟩ = true := by
  show (w.toArray.all fun c => decide (c < 1114112)) = true
  rw [List.all_toArray, List.all_eq_true]
  intro c hc
  have := of_decide_eq_true (List.all_eq_true.mp h c hc)
  exact decide_eq_true (by omega)
theorem eqv_list {f : α → PyData} [DecidableEq α] (hf : ∀ a b, PyData.eqv (f a) (f b) = decide (a = b)) : ∀ a b : List α, PyData.eqvAll (a.map f) (b.map f) = decide (a = b)
  | [], [] => rfl
  | [], b :: bs => by simp [PyData.eqvAll]
  | a :: as, [] => by simp [PyData.eqvAll]
  | a :: as, b :: bs => by
    show (PyData.eqv (f a) (f b) && PyData.eqvAll (as.map f) (bs.map f)) = _
    rw [hf, eqv_list hf as bs, Bool.eq_iff_iff, Bool.and_eq_true, decide_eq_true_eq, decide_eq_true_eq, decide_eq_true_eq, List.cons.injEq]
theorem eqvS (a b : List Nat) : PyData.eqv (pS a) (pS b) = decide (a = b) := by
  show ((⟨a.toArray⟩ : Str) == ⟨b.toArray⟩) = _
  rw [arr_beq, Bool.eq_iff_iff, beq_iff_eq, decide_eq_true_eq]
theorem eqvP (p q : List Nat × List Nat) : PyData.eqv (pP p) (pP q) = decide (p = q) := by
  show (PyData.eqv (pS p.1) (pS q.1) && (PyData.eqv (pS p.2) (pS q.2) && true)) = _
  rw [eqvS, eqvS, Bool.and_true, Bool.eq_iff_iff, Bool.and_eq_true, decide_eq_true_eq, decide_eq_true_eq, decide_eq_true_eq, Prod.ext_iff]
theorem lay_list {f : α → PyData} (P : α → Prop) (h1 : ∀ a, P a → PyData.canLay0 (f a) = true) (h2 : ∀ a, PyData.depth (f a) ≤ 3) : ∀ a : List α, (∀ x ∈ a, P x) → PyData.canLayAll0 (a.map f) = true ∧ PyData.depthAll (a.map f) ≤ 3
  | [], _ => ⟨rfl, by show 0 ≤ 3; omega⟩
  | x :: a, h => by
    obtain ⟨i, j⟩ := lay_list P h1 h2 a fun y hy => h y (List.mem_cons_of_mem _ hy)
    constructor
    · show (PyData.canLay0 (f x) && PyData.canLayAll0 (a.map f)) = true
      rw [h1 x (h x List.mem_cons_self), i]
      rfl
    · show max (PyData.depth (f x)) (PyData.depthAll (a.map f)) ≤ 3
      have := h2 x
      omega
theorem shaped_list {f : α → PyData} (P : α → Prop) (h1 : ∀ a, P a → PyData.canLay0 (f a) = true) (h2 : ∀ a, PyData.depth (f a) ≤ 3) {a : List α} (h : ∀ x ∈ a, P x) : SeqAt.shaped (.list (a.map f)) = true := by
  obtain ⟨i, j⟩ := lay_list P h1 h2 a h
  show (PyData.canLayAll0 (a.map f) && decide (PyData.depthAll (a.map f) + 1 ≤ 64)) = true
  rw [i, decide_eq_true (by omega)]
  rfl
theorem toPys_map {f : α → D} {g : α → PyData} (h : ∀ a, toPy (f a) = some (g a)) : ∀ l : List α, toPys (l.map f) = some (l.map g)
  | [] => rfl
  | a :: l => by
    show (toPy (f a)).bind (fun d => (toPys (l.map f)).map fun ds => d :: ds) = _
    rw [h, toPys_map h l]
    rfl
/-- lists of texts compared -/
theorem eq_strsL {M : MH} {a b : List (List Nat)} (ha : ∀ w ∈ a, asc w = true) (hb : ∀ w ∈ b, asc w = true) : cmpD M .Eq (.tl (a.map .str)) (.tl (b.map .str)) = some (decide (a = b)) := by
  have e : cmpD M .Eq (.tl (a.map .str)) (.tl (b.map .str)) = ((toPys (a.map .str)).map PyData.list).bind fun d => ((toPys (b.map .str)).map PyData.list).bind fun e => if SeqAt.shaped d && SeqAt.shaped e then some (PyData.eqv d e) else none := rfl
  have t : ∀ w, toPy (.str w) = some (pS w) := fun _ => rfl
  rw [e, toPys_map t, toPys_map t]
  have sh : ∀ a : List (List Nat), (∀ w ∈ a, asc w = true) → SeqAt.shaped (.list (a.map pS)) = true := fun a h => shaped_list (f := pS) (fun w => asc w = true) (fun w hw => asc_ok hw) (fun _ => Nat.zero_le _) h
  show (if SeqAt.shaped (.list (a.map pS)) && SeqAt.shaped (.list (b.map pS)) then some (PyData.eqvAll (a.map pS) (b.map pS)) else none) = _
  rw [sh a ha, sh b hb, if_pos (by decide), eqv_list eqvS]
/-- lists of pairs of texts compared -/
theorem eq_pairsL {M : MH} {a b : List (List Nat × List Nat)} (ha : ∀ w ∈ a, asc w.1 = true ∧ asc w.2 = true) (hb : ∀ w ∈ b, asc w.1 = true ∧ asc w.2 = true) : cmpD M .Eq (.tl (a.map fun p => .tup [.str p.1, .str p.2])) (.tl (b.map fun p => .tup [.str p.1, .str p.2])) = some (decide (a = b)) := by
  have e : cmpD M .Eq (.tl (a.map fun p => .tup [.str p.1, .str p.2])) (.tl (b.map fun p => .tup [.str p.1, .str p.2])) = ((toPys (a.map fun p => .tup [.str p.1, .str p.2])).map PyData.list).bind fun d => ((toPys (b.map fun p => .tup [.str p.1, .str p.2])).map PyData.list).bind fun e => if SeqAt.shaped d && SeqAt.shaped e then some (PyData.eqv d e) else none := rfl
  have t : ∀ p : List Nat × List Nat, toPy (.tup [.str p.1, .str p.2]) = some (pP p) := fun _ => rfl
  rw [e, toPys_map t, toPys_map t]
  have sh : ∀ a : List (List Nat × List Nat), (∀ w ∈ a, asc w.1 = true ∧ asc w.2 = true) → SeqAt.shaped (.list (a.map pP)) = true := fun a h => shaped_list (f := pP) (fun w => asc w.1 = true ∧ asc w.2 = true) (fun w hw => by
    show (PyData.strOk ⟨w.1.toArray⟩ && (PyData.strOk ⟨w.2.toArray⟩ && true)) = true
    rw [asc_ok hw.1, asc_ok hw.2]
    rfl) (fun w => by
    show max 0 (max 0 0) + 1 ≤ 3
    omega) h
  show (if SeqAt.shaped (.list (a.map pP)) && SeqAt.shaped (.list (b.map pP)) then some (PyData.eqvAll (a.map pP) (b.map pP)) else none) = _
  rw [sh a ha, sh b hb, if_pos (by decide), eqv_list eqvP]
end LX
namespace LK
open LX
/-! ### what is known of words -/
structure Good (t : Tk) : Prop where
  h : (∃ c, t.2.1 = [c] ∧ inS c SG = true ∧ t.1 = kSIGN) ∨ ∃ c r, t.2.1 = c :: r ∧ c ≠ 10 ∧ c ≠ 32 ∧ c ≠ 35 ∧ inS c SG = false ∧ sgn c ≠ [] ∧ (∀ z ∈ c :: r, inS z (sgn c) = true) ∧ judge (c :: r) = .ok t.1
theorem sgn_self {c : Nat} (h : sgn c ≠ []) : inS c (sgn c) = true := by
  have up : ∀ {t u : List Nat}, inS c t = true → inS c (t ++ u) = true := fun h => decide_eq_true (List.mem_append_left _ (of_decide_eq_true h))
  unfold sgn at h ⊢
  cases h1 : inS c SM with
  | true => exact up h1
  | false =>
    cases h2 : inS c FG with
    | true => simpa using h2
    | false =>
      cases h3 : inS c CO with
      | true => simpa using h3
      | false => rw [h1, h2, h3] at h; exact absurd rfl h
theorem sgn_asc {c z : Nat} (h : inS z (sgn c) = true) : z < 128 ∧ z ≠ 32 := by
  have q : ∀ z ∈ (SM ++ FG) ++ CO, z < 128 ∧ z ≠ 32 := by decide
  have m : z ∈ sgn c := of_decide_eq_true h
  unfold sgn at m
  split at m
  · exact q z (List.mem_append_left _ m)
  · split at m
    · exact q z (List.mem_append_left _ (List.mem_append_right _ m))
    · split at m
      · exact q z (List.mem_append_right _ m)
      · cases m
theorem sg_asc {c : Nat} (h : inS c SG = true) : c < 128 ∧ c ≠ 10 ∧ c ≠ 32 ∧ c ≠ 35 := by
  have q : ∀ z ∈ SG, z < 128 ∧ z ≠ 10 ∧ z ≠ 32 ∧ z ≠ 35 := by decide
  exact q c (of_decide_eq_true h)
theorem judge_asc {w k : List Nat} (h : judge w = .ok k) : asc k = true := by
  unfold judge at h
  split at h
  · injection h with h; subst h; decide
  · split at h
    · split at h
      · cases h
      · injection h with h
        subst h
        split <;> decide
    · split at h
      · split at h
        · cases h
        · split at h
          · cases h
          · injection h with h; subst h; decide
      · split at h
        · cases h
        · injection h with h; subst h; decide
theorem Good.asc {t : Tk} (h : Good t) : LX.asc t.1 = true ∧ LX.asc t.2.1 = true := by
  rcases h.h with ⟨c, e, hc, k⟩ | ⟨c, r, e, _, _, _, _, _, hz, hj⟩
  · rw [e, k]
    exact ⟨by decide, by simp [LX.asc, (sg_asc hc).1]⟩
  · rw [e]
    exact ⟨judge_asc hj, List.all_eq_true.mpr fun z h => decide_eq_true (sgn_asc (hz z h)).1⟩
theorem Good.pos {t : Tk} (h : Good t) : 0 < t.2.1.length := by
  rcases h.h with ⟨c, e, _, _⟩ | ⟨c, r, e, _, _, _, _, _, _, _⟩ <;> rw [e] <;> simp
/-- words' kinds are told by the words -/
def kW (w : List Nat) : List Nat :=
  match w with
  | [] => []
  | c :: r => if inS c SG then kSIGN else match judge (c :: r) with
    | .ok k => k
    | .error k => k
theorem Good.kind {t : Tk} (h : Good t) : t.1 = kW t.2.1 := by
  rcases h.h with ⟨c, e, hc, k⟩ | ⟨c, r, e, _, _, _, hg, _, hz, hj⟩
  · rw [e, k]
    show _ = if inS c SG then kSIGN else _
    rw [hc, if_pos rfl]
  · rw [e]
    show _ = if inS c SG then kSIGN else match judge (c :: r) with
    | .ok k => k
    | .error k => k
    rw [hg, if_neg (by decide), hj]
theorem dw_len {p : Nat → Bool} : ∀ l : List Nat, (l.takeWhile p).length + (l.dropWhile p).length = l.length
  | [] => rfl
  | x :: l => by
    rw [List.takeWhile_cons, List.dropWhile_cons]
    cases p x with
    | true =>
      show ((l.takeWhile p).length + 1) + (l.dropWhile p).length = l.length + 1
      have := dw_len (p := p) l
      omega
    | false => simp
theorem tok_good : ∀ (n : Nat) (u : List Nat) (l : Nat) (ts : List Tk), tok n u l = .ok ts → (∀ t ∈ ts, Good t) ∧ (ts.map fun t => t.2.1.length).sum ≤ u.length
  | 0, u, l, ts, h => by
    injection h with h
    subst h
    exact ⟨fun t ht => (by cases ht), Nat.zero_le _⟩
  | n + 1, [], l, ts, h => by
    injection h with h
    subst h
    exact ⟨fun t ht => (by cases ht), Nat.zero_le _⟩
  | n + 1, c :: r, l, ts, h => by
    have et : tok (n + 1) (c :: r) l = if c = 10 then tok n r (l + 1)
      else if c = 32 then tok n r l
      else if c = 35 then tok n ((c :: r).dropWhile fun c => decide (c ≠ 10)) l
      else if inS c SG then cons1 (kSIGN, [c], l) (tok n r l)
      else if sgn c = [] then .error (l, kSIGN)
      else match judge (c :: r.takeWhile fun z => inS z (sgn c)) with
        | .error w => .error (l, w)
        | .ok k => cons1 (k, c :: r.takeWhile fun z => inS z (sgn c), l) (tok n (r.dropWhile fun z => inS z (sgn c)) l) := rfl
    rw [et] at h
    have lc : (c :: r).length = r.length + 1 := rfl
    have cons : ∀ {t : Tk} {r : Rt}, cons1 t r = .ok ts → ∃ us, r = .ok us ∧ ts = t :: us := fun {t r} h => by
      cases r with
      | ok us => injection h with h; exact ⟨us, rfl, h.symm⟩
      | error e => cases h
    by_cases c10 : c = 10
    · rw [if_pos c10] at h
      obtain ⟨a, b⟩ := tok_good n r (l + 1) ts h
      exact ⟨a, by omega⟩
    rw [if_neg c10] at h
    by_cases c32 : c = 32
    · rw [if_pos c32] at h
      obtain ⟨a, b⟩ := tok_good n r l ts h
      exact ⟨a, by omega⟩
    rw [if_neg c32] at h
    by_cases c35 : c = 35
    · rw [if_pos c35] at h
      obtain ⟨a, b⟩ := tok_good n _ l ts h
      have := dw_len (p := fun c => decide (c ≠ 10)) (c :: r)
      exact ⟨a, by omega⟩
    rw [if_neg c35] at h
    cases hg : inS c SG with
    | true =>
      rw [hg, if_pos rfl] at h
      obtain ⟨us, h1, rfl⟩ := cons h
      obtain ⟨a, b⟩ := tok_good n r l us h1
      refine ⟨fun t ht => ?_, by simp; omega⟩
      rcases List.mem_cons.mp ht with rfl | ht
      · exact ⟨.inl ⟨c, rfl, hg, rfl⟩⟩
      · exact a t ht
    | false =>
      rw [hg, if_neg (by decide)] at h
      by_cases h0 : sgn c = []
      · rw [if_pos h0] at h
        cases h
      · rw [if_neg h0] at h
        cases hj : judge (c :: r.takeWhile fun z => inS z (sgn c)) with
        | error w => rw [hj] at h; cases h
        | ok k =>
          rw [hj] at h
          obtain ⟨us, h1, rfl⟩ := cons h
          obtain ⟨a, b⟩ := tok_good n _ l us h1
          have := dw_len (p := fun z => inS z (sgn c)) r
          refine ⟨fun t ht => ?_, by simp; omega⟩
          rcases List.mem_cons.mp ht with rfl | ht
          · refine ⟨.inr ⟨c, _, rfl, c10, c32, c35, hg, h0, fun z hz => ?_, hj⟩⟩
            rcases List.mem_cons.mp hz with rfl | hz
            · exact sgn_self h0
            · exact tw_all (p := fun z => inS z (sgn c)) hz
          · exact a t ht
theorem tw_app {p : Nat → Bool} : ∀ {l m : List Nat}, (∀ z ∈ l, p z = true) → (m = [] ∨ ∃ x r, m = x :: r ∧ p x = false) → (l ++ m).takeWhile p = l ∧ (l ++ m).dropWhile p = m
  | [], m, _, hm => by
    rcases hm with rfl | ⟨x, r, rfl, h⟩
    · exact ⟨rfl, rfl⟩
    · simp [List.takeWhile_cons, List.dropWhile_cons, h]
  | x :: l, m, hl, hm => by
    obtain ⟨a, b⟩ := tw_app (p := p) (l := l) (fun z hz => hl z (List.mem_cons_of_mem _ hz)) hm
    rw [List.cons_append, List.takeWhile_cons, List.dropWhile_cons, hl x List.mem_cons_self, if_pos rfl, if_pos rfl, a]
    exact ⟨rfl, b⟩
theorem tok_word {t : Tk} (h : Good t) (n : Nat) (rest : List Nat) (l : Nat) (hr : rest = [] ∨ ∃ r', rest = 32 :: r') : tok (n + 1) (t.2.1 ++ rest) l = cons1 (t.1, t.2.1, l) (tok n rest l) := by
  rcases h.h with ⟨c, e, hc, k⟩ | ⟨c, r, e, c10, c32, c35, hg, h0, hz, hj⟩
  · obtain ⟨_, c10, c32, c35⟩ := sg_asc hc
    rw [e, k]
    show (if c = 10 then _ else if c = 32 then _ else if c = 35 then _ else if inS c SG then cons1 (kSIGN, [c], l) (tok n rest l) else _) = _
    rw [if_neg c10, if_neg c32, if_neg c35, hc, if_pos rfl]
  · obtain ⟨a, b⟩ := tw_app (p := fun z => inS z (sgn c)) (l := r) (m := rest) (fun z h => hz z (List.mem_cons_of_mem _ h)) (by
      rcases hr with hr | ⟨r', hr⟩
      · exact .inl hr
      · refine .inr ⟨32, r', hr, ?_⟩
        cases q : inS 32 (sgn c) with
        | false => rfl
        | true => exact absurd rfl (sgn_asc q).2)
    rw [e]
    show (if c = 10 then _ else if c = 32 then _ else if c = 35 then _ else if inS c SG then _ else if sgn c = [] then _ else match judge (c :: (r ++ rest).takeWhile fun z => inS z (sgn c)) with
        | .error w => (Except.error (l, w) : Rt)
        | .ok k => cons1 (k, c :: (r ++ rest).takeWhile fun z => inS z (sgn c), l) (tok n ((r ++ rest).dropWhile fun z => inS z (sgn c)) l)) = _
    rw [if_neg c10, if_neg c32, if_neg c35, hg, if_neg (by decide), if_neg h0, a, b, hj]
theorem tok_nil (n l : Nat) : tok n [] l = .ok [] := by cases n <;> rfl
/-- the plain text of words has the same words -/
theorem retok : ∀ (ts : List Tk) (n l : Nat), (∀ t ∈ ts, Good t) → (joinS [32] (ts.map fun t => t.2.1)).length ≤ n → tok n (joinS [32] (ts.map fun t => t.2.1)) l = .ok (ts.map fun t => (t.1, t.2.1, l))
  | [], n, l, _, _ => tok_nil n l
  | [t], n, l, h, hn => by
    have g := h t List.mem_cons_self
    have hp := g.pos
    have e : joinS [32] ([t].map fun t => t.2.1) = t.2.1 := rfl
    rw [e] at hn ⊢
    obtain ⟨m, rfl⟩ : ∃ m, n = m + 1 := ⟨n - 1, by omega⟩
    have q := tok_word g m [] l (.inl rfl)
    rw [List.append_nil, tok_nil] at q
    exact q
  | t :: t' :: ts, n, l, h, hn => by
    have g := h t List.mem_cons_self
    have hp := g.pos
    have e : joinS [32] ((t :: t' :: ts).map fun t => t.2.1) = t.2.1 ++ ([32] ++ joinS [32] ((t' :: ts).map fun t => t.2.1)) := rfl
    rw [e] at hn ⊢
    rw [List.length_append, List.length_append, List.length_singleton] at hn
    obtain ⟨m, rfl⟩ : ∃ m, n = m + 1 + 1 := ⟨n - 2, by omega⟩
    rw [tok_word g (m + 1) ([32] ++ joinS [32] ((t' :: ts).map fun t => t.2.1)) l (.inr ⟨_, rfl⟩)]
    have e2 : tok (m + 1) ([32] ++ joinS [32] ((t' :: ts).map fun t => t.2.1)) l = tok m (joinS [32] ((t' :: ts).map fun t => t.2.1)) l := rfl
    rw [e2, retok (t' :: ts) m l (fun x hx => h x (List.mem_cons_of_mem _ hx)) (by omega)]
    rfl
end LK

set_option Elab.async false
set_option linter.all false
set_option maxRecDepth 1000000
set_option maxHeartbeats 4000000
namespace LK
open LX
abbrev kTOLD : List Nat := [116, 111, 108, 100]
abbrev kTEXT : List Nat := [116, 101, 120, 116]
theorem tD_und (ts : List Tk) : D.undAll 0 (ts.map tD) = true := unds_of fun x hx => by
  obtain ⟨t, _, rfl⟩ := List.mem_map.mp hx
  rfl
theorem str_und (l : List (List Nat)) : D.undAll 0 (l.map .str) = true := unds_of fun x hx => by
  obtain ⟨t, _, rfl⟩ := List.mem_map.mp hx
  rfl
theorem strs_of : ∀ l : List (List Nat), strsL (l.map .str) = some l
  | [] => rfl
  | w :: l => by
    show (strsL (l.map .str)).map (fun l => w :: l) = _
    rw [strs_of l]
    rfl
/-- the words alone -/
def ws (ts : List Tk) : List (List Nat) := ts.map fun t => t.2.1
theorem ws_sum {n l : Nat} {u : List Nat} {ts : List Tk} (h : tok n u l = .ok ts) : ((ws ts).map List.length).sum ≤ u.length ∧ ts.length ≤ u.length := by
  obtain ⟨a, b⟩ := tok_good n u l ts h
  have e : (ws ts).map List.length = ts.map fun t => t.2.1.length := by unfold ws; rw [List.map_map]; rfl
  rw [e]
  refine ⟨b, Nat.le_trans ?_ b⟩
  have : ∀ l : List Tk, (∀ t ∈ l, Good t) → l.length ≤ (l.map fun t => t.2.1.length).sum := fun l => by
    induction l with
    | nil => intro _; exact Nat.zero_le _
    | cons t l ih =>
      intro h
      have := (h t List.mem_cons_self).pos
      have := ih fun t ht => h t (List.mem_cons_of_mem _ ht)
      simp only [List.length_cons, List.map_cons, List.sum_cons]
      omega
  exact this ts a
theorem join_len : ∀ l : List (List Nat), (joinS [32] l).length ≤ (l.map List.length).sum + l.length
  | [] => Nat.zero_le _
  | [p] => by simp [joinS]
  | p :: q :: r => by
    have ih := join_len (q :: r)
    show (p ++ ([32] ++ joinS [32] (q :: r))).length ≤ _
    rw [List.length_append, List.length_append, List.length_singleton]
    simp only [List.map_cons, List.sum_cons, List.length_cons] at ih ⊢
    omega
section
variable {M : MH} {d : Nat} {s u : List Nat}
theorem kinds_ok (hM : Cl M) (hd : 5 < d) (hs : s.length < 8000000) : R.f d 9 [.str s] M = match tok s.length s 1 with
    | .ok ts => .ok (.tup (ts.map fun t => .str t.1)) M
    | .error (l, w) => bad l w M := by
  have hlim : lim = 16777216 := rfl
  obtain ⟨d, rfl⟩ : ∃ e, d = e + 1 := ⟨d - 1, by omega⟩
  have wo := words_ok (s := s) (d := d) hM (by omega) (by omega)
  rw [call_eq (t := f_9) rfl rfl]
  show endF true M.length (R.ss ⟨d, none⟩ f_9.body [some (.str s), none, none, none] M) = _
  cases hT : tok s.length s 1 with
  | error e =>
    obtain ⟨l, w⟩ := e
    rw [hT] at wo
    dsimp only at wo ⊢
    rw [← bad_end (l := l) (w := w) (M := M) (M' := M) (ρ := [some (.str s), none, none, none]) (by simp) hM]
    simp -implicitDefEqProofs [f_9, wo]
  | ok ts =>
    obtain ⟨_, lt⟩ := ws_sum hT
    rw [hT] at wo
    dsimp only at wo ⊢
    have lc : lcL R ⟨d, none⟩ (.tup [1, 2, 3]) (ts.map tD) none none (.var 1) [some (.str s), none, none, none] (ts.map tD) [] M = .ok ([] ++ (ts.map tD).map fun x => match x with
        | .tup (y :: _) => y
        | _ => .non) M := lc_map _ (fun x hx => by
      obtain ⟨t, _, rfl⟩ := List.mem_map.mp hx
      exact ⟨[some (.str s), some (.str t.1), some (.str t.2.1), some (.int (t.2.2 : Nat))], rfl, by simp [tD]⟩) (by simp; omega)
    rw [List.nil_append, List.map_map] at lc
    have lc' : lcL R ⟨d, none⟩ (.tup [1, 2, 3]) (ts.map tD) none none (.var 1) [some (.str s), none, none, none] (ts.map tD) [] M = .ok (ts.map fun t => .str t.1) M := lc
    rw [← endF_vC (M := M) (M' := M) (d := .tup (ts.map fun t => .str t.1)) (unds_of fun x hx => by
      obtain ⟨t, _, rfl⟩ := List.mem_map.mp hx
      rfl) (by simp) hM]
    generalize ts.map tD = A at *
    generalize (ts.map fun t => D.str t.1) = B at *
    simp -implicitDefEqProofs [f_9, wo, wipeE]
    rw [lc']
    simp
theorem bare_ok (hM : Cl M) (hd : 5 < d) (hs : s.length < 8000000) : R.f d 10 [.str s] M = match tok s.length s 1 with
    | .ok ts => .ok (.tl ((ws ts).map .str)) M
    | .error (l, w) => bad l w M := by
  have hlim : lim = 16777216 := rfl
  obtain ⟨d, rfl⟩ : ∃ e, d = e + 1 := ⟨d - 1, by omega⟩
  have wo := words_ok (s := s) (d := d) hM (by omega) (by omega)
  rw [call_eq (t := f_10) rfl rfl]
  show endF true M.length (R.ss ⟨d, none⟩ f_10.body [some (.str s), none, none, none] M) = _
  cases hT : tok s.length s 1 with
  | error e =>
    obtain ⟨l, w⟩ := e
    rw [hT] at wo
    dsimp only at wo ⊢
    rw [← bad_end (l := l) (w := w) (M := M) (M' := M) (ρ := [some (.str s), none, none, none]) (by simp) hM]
    simp -implicitDefEqProofs [f_10, wo]
  | ok ts =>
    obtain ⟨_, lt⟩ := ws_sum hT
    rw [hT] at wo
    dsimp only at wo ⊢
    have lc : lcL R ⟨d, none⟩ (.tup [1, 2, 3]) (ts.map tD) none none (.var 2) [some (.str s), none, none, none] (ts.map tD) [] M = .ok ([] ++ (ts.map tD).map fun x => match x with
        | .tup (_ :: y :: _) => y
        | _ => .non) M := lc_map _ (fun x hx => by
      obtain ⟨t, _, rfl⟩ := List.mem_map.mp hx
      exact ⟨[some (.str s), some (.str t.1), some (.str t.2.1), some (.int (t.2.2 : Nat))], rfl, by simp [tD]⟩) (by simp; omega)
    rw [List.nil_append, List.map_map] at lc
    have lc' : lcL R ⟨d, none⟩ (.tup [1, 2, 3]) (ts.map tD) none none (.var 2) [some (.str s), none, none, none] (ts.map tD) [] M = .ok ((ws ts).map .str) M := by
      rw [lc]
      unfold ws
      rw [List.map_map]
      rfl
    rw [← endF_vC (M := M) (M' := M) (d := .tl ((ws ts).map .str)) (str_und _) (by simp) hM]
    generalize ts.map tD = A at *
    generalize (ws ts).map D.str = B at *
    simp -implicitDefEqProofs [f_10, wo, wipeE]
    rw [lc']
    simp
theorem join32 {l : List (List Nat)} {x : D} (h : seqOf M x = some (l.map .str)) (hz : (l.map List.length).sum + l.length ≤ 16777216) : methD M .join (.str [32]) [x] = .ok (.str (joinS [32] l)) M := by
  have e : methD M .join (.str [32]) [x] = (ofO ((seqOf M x).bind strsL) M).bind fun l M => if (l.map List.length).sum + l.length * 1 ≤ 16777216 then .ok (.str (joinS [32] l)) M else .stuck := rfl
  rw [e, h]
  show (ofO (strsL (l.map .str)) M).bind _ = _
  rw [strs_of]
  show (if _ then _ else _) = _
  rw [if_pos (by omega)]
theorem plain_ok (hM : Cl M) (hd : 6 < d) (hs : s.length < 8000000) : R.f d 11 [.str s] M = match tok s.length s 1 with
    | .ok ts => .ok (.str (joinS [32] (ws ts))) M
    | .error (l, w) => bad l w M := by
  have hlim : lim = 16777216 := rfl
  obtain ⟨d, rfl⟩ : ∃ e, d = e + 1 := ⟨d - 1, by omega⟩
  have wo := bare_ok (s := s) (d := d) hM (by omega) (by omega)
  rw [call_eq (t := f_11) rfl rfl]
  show endF true M.length (R.ss ⟨d, none⟩ f_11.body [some (.str s)] M) = _
  cases hT : tok s.length s 1 with
  | error e =>
    obtain ⟨l, w⟩ := e
    rw [hT] at wo
    dsimp only at wo ⊢
    rw [← bad_end (l := l) (w := w) (M := M) (M' := M) (ρ := [some (.str s)]) (by simp) hM]
    simp -implicitDefEqProofs [f_11, wo]
  | ok ts =>
    obtain ⟨h1, h2⟩ := ws_sum hT
    rw [hT] at wo
    dsimp only at wo ⊢
    have lw : (ws ts).length = ts.length := by simp [ws]
    have jo := join32 (M := M) (l := ws ts) (x := .tl ((ws ts).map .str)) rfl (by omega)
    rw [← endF_vC (M := M) (M' := M) (d := .str (joinS [32] (ws ts))) rfl (by simp) hM]
    generalize (ws ts).map D.str = B at *
    simp -implicitDefEqProofs [f_11, wo, jo]
theorem same_ok (hM : Cl M) (hd : 6 < d) (hs : s.length < 8000000) (hu : u.length < 8000000) : R.f d 12 [.str s, .str u] M = match tok s.length s 1 with
    | .ok ts => (match tok u.length u 1 with
      | .ok us => .ok (.bl (decide (ws ts = ws us))) M
      | .error (l, w) => bad l w M)
    | .error (l, w) => bad l w M := by
  have hlim : lim = 16777216 := rfl
  obtain ⟨d, rfl⟩ : ∃ e, d = e + 1 := ⟨d - 1, by omega⟩
  have wo := bare_ok (s := s) (d := d) hM (by omega) (by omega)
  have wu := bare_ok (s := u) (d := d) hM (by omega) (by omega)
  rw [call_eq (t := f_12) rfl rfl]
  show endF true M.length (R.ss ⟨d, none⟩ f_12.body [some (.str s), some (.str u), none] M) = _
  cases hT : tok s.length s 1 with
  | error e =>
    obtain ⟨l, w⟩ := e
    rw [hT] at wo
    dsimp only at wo ⊢
    rw [← bad_end (l := l) (w := w) (M := M) (M' := M) (ρ := [some (.str s), some (.str u), none]) (by simp) hM]
    simp -implicitDefEqProofs [f_12, wo]
  | ok ts =>
    rw [hT] at wo
    dsimp only at wo ⊢
    cases hU : tok u.length u 1 with
    | error e =>
      obtain ⟨l, w⟩ := e
      rw [hU] at wu
      dsimp only at wu ⊢
      rw [← bad_end (l := l) (w := w) (M := M) (M' := M) (ρ := [some (.str s), some (.str u), some (.tl ((ws ts).map .str))]) (by simp) hM]
      simp -implicitDefEqProofs [f_12, wo, wu]
    | ok us =>
      rw [hU] at wu
      dsimp only at wu ⊢
      have asw : ∀ {n u l ts}, tok n u l = .ok ts → ∀ w ∈ ws ts, asc w = true := fun h w hw => by
        obtain ⟨t, ht, rfl⟩ := List.mem_map.mp hw
        exact ((tok_good _ _ _ _ h).1 t ht).asc.2
      have eq := eq_strsL (M := M) (asw hT) (asw hU)
      rw [← endF_vC (M := M) (M' := M) (d := .bl (decide (ws ts = ws us))) rfl (by simp) hM]
      generalize decide (ws ts = ws us) = K at *
      generalize (ws ts).map D.str = B at *
      generalize (ws us).map D.str = C at *
      simp -implicitDefEqProofs [f_12, wo, wu, eq]
/-! ### _law_heard -/
def badD (l : Nat) (w : List Nat) : D := .tup [.str kTEXT, .int (l : Nat), .str w]
def toldD (x : D) : D := .tup [.str kTOLD, x]
theorem lkl (a b : D) : List.lookup ("line" : PySem.Str) [("line", a), ("word", b)] = some a := rfl
theorem lkw (a b : D) : List.lookup ("word" : PySem.Str) [("line", a), ("word", b)] = some b := rfl
theorem heard_bad {k : Nat} {x y : D} {l : Nat} {w : List Nat} (hM : Cl M) (h : R.ss ⟨d, none⟩ [.ite (.cmp .Eq (.var 0) (.con (.int 0))) [.ret (.tup [.con (.str kTOLD), .call 8 [.var 1]])] [], .ite (.cmp .Eq (.var 0) (.con (.int 1))) [.ret (.tup [.con (.str kTOLD), .call 9 [.var 1]])] [], .ret (.tup [.con (.str kTOLD), .ite (.cmp .Eq (.var 0) (.con (.int 2))) (.call 11 [.var 1]) (.call 12 [.var 1, .var 2])])] [some (.int (k : Nat)), some x, some y, none] M = .exn 0 [("line", .int (l : Nat)), ("word", .str w)] [some (.int (k : Nat)), some x, some y, none] M) : R.f (d + 1) 21 [.int (k : Nat), x, y] M = .ok (badD l w) M := by
  rw [call_eq (t := f_21) rfl rfl, ← endF_vC (M := M) (M' := M) (d := badD l w) rfl (by simp) hM]
  have eb : ∃ hs, f_21.body = [.try [.ite (.cmp .Eq (.var 0) (.con (.int 0))) [.ret (.tup [.con (.str kTOLD), .call 8 [.var 1]])] [], .ite (.cmp .Eq (.var 0) (.con (.int 1))) [.ret (.tup [.con (.str kTOLD), .call 9 [.var 1]])] [], .ret (.tup [.con (.str kTOLD), .ite (.cmp .Eq (.var 0) (.con (.int 2))) (.call 11 [.var 1]) (.call 12 [.var 1, .var 2])])] hs] ∧ hs = [(1, some 3, [.ite (.or (.not (.xisi [0])) (.or (.not (.xisi [5])) (.xisi [3, 2, 4, 6]))) [.ret (.tup [.con (.str [111, 100, 100])])] [], .ret (.tup [.con (.str kTEXT), .xat "line", .xat "word"])])] := ⟨_, rfl, rfl⟩
  obtain ⟨hs, eb, rfl⟩ := eb
  show endF true M.length (R.ss ⟨d, none⟩ f_21.body [some (.int (k : Nat)), some x, some y, none] M) = _
  rw [eb, ss_cons', st_try, h]
  simp -implicitDefEqProofs [lv, clause, xc0, slotIn, gone, SRes.map, lim, lkw, lkl, badD]
theorem heard_ok {k : Nat} {x y v : D} (hM : Cl M) (hv : D.und 0 v = true) (h : R.ss ⟨d, none⟩ [.ite (.cmp .Eq (.var 0) (.con (.int 0))) [.ret (.tup [.con (.str kTOLD), .call 8 [.var 1]])] [], .ite (.cmp .Eq (.var 0) (.con (.int 1))) [.ret (.tup [.con (.str kTOLD), .call 9 [.var 1]])] [], .ret (.tup [.con (.str kTOLD), .ite (.cmp .Eq (.var 0) (.con (.int 2))) (.call 11 [.var 1]) (.call 12 [.var 1, .var 2])])] [some (.int (k : Nat)), some x, some y, none] M = .rt v M) : R.f (d + 1) 21 [.int (k : Nat), x, y] M = .ok v M := by
  rw [call_eq (t := f_21) rfl rfl, ← endF_vC (M := M) (M' := M) (d := v) hv (by simp) hM]
  have eb : ∃ hs, f_21.body = [.try [.ite (.cmp .Eq (.var 0) (.con (.int 0))) [.ret (.tup [.con (.str kTOLD), .call 8 [.var 1]])] [], .ite (.cmp .Eq (.var 0) (.con (.int 1))) [.ret (.tup [.con (.str kTOLD), .call 9 [.var 1]])] [], .ret (.tup [.con (.str kTOLD), .ite (.cmp .Eq (.var 0) (.con (.int 2))) (.call 11 [.var 1]) (.call 12 [.var 1, .var 2])])] hs] := ⟨_, rfl⟩
  obtain ⟨hs, eb⟩ := eb
  show endF true M.length (R.ss ⟨d, none⟩ f_21.body [some (.int (k : Nat)), some x, some y, none] M) = _
  rw [eb, ss_cons', st_try, h]
  rfl
/-- what is heard, by which -/
def due0 (r : Rt) (f : List Tk → D) : D := match r with
  | .ok ts => toldD (f ts)
  | .error (l, w) => badD l w
theorem heard0 {y : D} (hM : Cl M) (hd : 5 < d) (hs : s.length < 8000000) : R.f d 21 [.int 0, .str s, y] M = .ok (due0 (tok s.length s 1) fun ts => .tup (ts.map tD)) M := by
  have hlim : lim = 16777216 := rfl
  obtain ⟨d, rfl⟩ : ∃ e, d = e + 1 := ⟨d - 1, by omega⟩
  have wo := words_ok (s := s) (d := d) hM (by omega) (by omega)
  cases hT : tok s.length s 1 with
  | error e =>
    obtain ⟨l, w⟩ := e
    rw [hT] at wo
    exact heard_bad (k := 0) hM (by dsimp only at wo; simp -implicitDefEqProofs [wo])
  | ok ts =>
    rw [hT] at wo
    exact heard_ok (k := 0) hM (by show (true && (D.undAll 0 (ts.map tD) && true)) = true; rw [tD_und]; rfl) (by
      dsimp only at wo
      show _ = SRes.rt (.tup [.str kTOLD, .tup (ts.map tD)]) M
      generalize ts.map tD = A at *
      simp -implicitDefEqProofs [wo, lim])
theorem heard1 {y : D} (hM : Cl M) (hd : 6 < d) (hs : s.length < 8000000) : R.f d 21 [.int 1, .str s, y] M = .ok (due0 (tok s.length s 1) fun ts => .tup (ts.map fun t => .str t.1)) M := by
  have hlim : lim = 16777216 := rfl
  obtain ⟨d, rfl⟩ : ∃ e, d = e + 1 := ⟨d - 1, by omega⟩
  have wo := kinds_ok (s := s) (d := d) hM (by omega) (by omega)
  cases hT : tok s.length s 1 with
  | error e =>
    obtain ⟨l, w⟩ := e
    rw [hT] at wo
    exact heard_bad (k := 1) hM (by dsimp only at wo; simp -implicitDefEqProofs [wo])
  | ok ts =>
    rw [hT] at wo
    exact heard_ok (k := 1) hM (by
      show (true && (D.undAll 0 (ts.map fun t => .str t.1) && true)) = true
      rw [unds_of fun x hx => by
        obtain ⟨t, _, rfl⟩ := List.mem_map.mp hx
        rfl]
      rfl) (by
      dsimp only at wo
      show _ = SRes.rt (.tup [.str kTOLD, .tup (ts.map fun t => .str t.1)]) M
      generalize (ts.map fun t => D.str t.1) = A at *
      simp -implicitDefEqProofs [wo, lim])
theorem heard2 {y : D} (hM : Cl M) (hd : 7 < d) (hs : s.length < 8000000) : R.f d 21 [.int 2, .str s, y] M = .ok (due0 (tok s.length s 1) fun ts => .str (joinS [32] (ws ts))) M := by
  have hlim : lim = 16777216 := rfl
  obtain ⟨d, rfl⟩ : ∃ e, d = e + 1 := ⟨d - 1, by omega⟩
  have wo := plain_ok (s := s) (d := d) hM (by omega) (by omega)
  cases hT : tok s.length s 1 with
  | error e =>
    obtain ⟨l, w⟩ := e
    rw [hT] at wo
    exact heard_bad (k := 2) hM (by dsimp only at wo; simp -implicitDefEqProofs [wo])
  | ok ts =>
    rw [hT] at wo
    exact heard_ok (k := 2) hM rfl (by
      dsimp only at wo
      show _ = SRes.rt (.tup [.str kTOLD, .str (joinS [32] (ws ts))]) M
      generalize joinS [32] (ws ts) = A at *
      simp -implicitDefEqProofs [wo, lim])
def due3 (r q : Rt) : D := match r with
  | .ok ts => (match q with
    | .ok us => toldD (.bl (decide (ws ts = ws us)))
    | .error (l, w) => badD l w)
  | .error (l, w) => badD l w
theorem heard3 (hM : Cl M) (hd : 7 < d) (hs : s.length < 8000000) (hu : u.length < 8000000) : R.f d 21 [.int 3, .str s, .str u] M = .ok (due3 (tok s.length s 1) (tok u.length u 1)) M := by
  have hlim : lim = 16777216 := rfl
  obtain ⟨d, rfl⟩ : ∃ e, d = e + 1 := ⟨d - 1, by omega⟩
  have wo := same_ok (s := s) (u := u) (d := d) hM (by omega) (by omega) hu
  cases hT : tok s.length s 1 with
  | error e =>
    obtain ⟨l, w⟩ := e
    rw [hT] at wo
    exact heard_bad (k := 3) hM (by dsimp only at wo; simp -implicitDefEqProofs [wo])
  | ok ts =>
    rw [hT] at wo
    cases hU : tok u.length u 1 with
    | error e =>
      obtain ⟨l, w⟩ := e
      rw [hU] at wo
      exact heard_bad (k := 3) hM (by dsimp only at wo; simp -implicitDefEqProofs [wo])
    | ok us =>
      rw [hU] at wo
      exact heard_ok (k := 3) hM rfl (by
        dsimp only at wo
        show _ = SRes.rt (.tup [.str kTOLD, .bl (decide (ws ts = ws us))]) M
        generalize decide (ws ts = ws us) = A at *
        simp -implicitDefEqProofs [wo, lim])
end
end LK

set_option Elab.async false
set_option linter.all false
set_option maxRecDepth 1000000
set_option maxHeartbeats 4000000
namespace LK
open LX
/-! ### _law_asked -/
abbrev pD (p : List Nat × List Nat) : D := .tup [.str p.1, .str p.2]
def prs (ts : List Tk) : List (List Nat × List Nat) := ts.map fun t => (t.1, t.2.1)
theorem prs_ws {ts us : List Tk} (h1 : ∀ t ∈ ts, Good t) (h2 : ∀ t ∈ us, Good t) : decide (prs ts = prs us) = decide (ws ts = ws us) := by
  have e : ∀ ts : List Tk, (∀ t ∈ ts, Good t) → prs ts = (ws ts).map fun w => (kW w, w) := fun ts h => by
    unfold prs ws
    rw [List.map_map]
    exact List.map_congr_left fun t ht => by rw [(h t ht).kind]; rfl
  have b : ∀ ts : List Tk, (prs ts).map (·.2) = ws ts := fun ts => by unfold prs ws; rw [List.map_map]; rfl
  rw [Bool.eq_iff_iff, decide_eq_true_eq, decide_eq_true_eq]
  constructor
  · intro h
    rw [← b ts, ← b us, h]
  · intro h
    rw [e ts h1, e us h2, h]
def q2 : List S := [.ite (.not (.truth (.call 15 [.call 21 [.var 2, .var 0, .con .non], .ix (.var 7) (.var 2)]))) [.ret (.con (.bl false))] []]
def c2 (i : Nat) : E := .lc false [11] (.one 11) (.var i) none (.cut false (.var 11) none (some (.con (.int 2))))
def q3 : List S := [.unp [9, 10] (.call 17 [.var 3]), .set 6 (.ite (.cmp .IsNot (.var 5) (.con .non)) (.bin false .Add (.tup [.con (.str kTEXT)]) (.var 5)) (.ite (.cmp .IsNot (.var 10) (.con .non)) (.bin false .Add (.tup [.con (.str kTEXT)]) (.var 10)) (.con .non))), .ite (.cmp .Is (.var 6) (.con .non)) [.set 6 (.tup [.con (.str kTOLD), .cmp .Eq (c2 4) (c2 9)])] [], .ite (.not (.truth (.call 15 [.call 21 [.con (.int 3), .var 0, .var 3], .var 6]))) [.ret (.con (.bl false))] []]
def dl : List S := [.set 7 (.lst false [.tup [.con (.str kTOLD), .fn false .tuple [.var 4]], .tup [.con (.str kTOLD), .fn false .tuple [.lc false [11] (.one 11) (.var 4) none (.ix (.var 11) (.con (.int 0)))]], .tup [.con (.str kTOLD), .meth .join (.con (.str [32])) [.lc false [11] (.one 11) (.var 4) none (.ix (.var 11) (.con (.int 1)))]]])]
def a4 : S := .ite (.cmp .Is (.var 5) (.con .non)) [.set 8 (.meth .join (.con (.str [32])) [.lc false [11] (.one 11) (.var 4) none (.ix (.var 11) (.con (.int 1)))]), .ret (.call 15 [.call 21 [.con (.int 0), .var 8, .con .non], .tup [.con (.str kTOLD), .fn false .tuple [.lc false [11] (.one 11) (.var 4) none (.bin false .Add (.cut false (.var 11) none (some (.con (.int 2)))) (.tup [.con (.int 1)]))]]])] []
section
variable {M : MH} {d : Nat} {s : List Nat}
theorem bad_st {l : Nat} {w : List Nat} (hd : 0 < d) (hM : Cl M) : R.f d 15 [badD l w, badD l w] M = .ok (.bl true) M := by
  obtain ⟨d, rfl⟩ : ∃ e, d = e + 1 := ⟨d - 1, by omega⟩
  exact same_true (d := d) rfl (by show 4 ≤ 16777216; omega) hM
theorem told_st {x : D} (hd : 0 < d) (hM : Cl M) (hp : D.pl x = true) (hz : D.sz x ≤ 10000000) : R.f d 15 [toldD x, toldD x] M = .ok (.bl true) M := by
  obtain ⟨d, rfl⟩ : ∃ e, d = e + 1 := ⟨d - 1, by omega⟩
  exact same_true (d := d) (by show (true && (D.pl x && true)) = true; rw [hp]; rfl) (by show 1 + (1 + (D.sz x + 0)) ≤ 16777216; omega) hM
theorem pls_map {α : Type} {f : α → D} (h : ∀ a, D.pl (f a) = true) : ∀ l : List α, D.pls (l.map f) = true := fun l => pls_of fun x hx => by
  obtain ⟨a, _, rfl⟩ := List.mem_map.mp hx
  exact h a
theorem szs_map {α : Type} {f : α → D} {k : Nat} (h : ∀ a, D.sz (f a) ≤ k) : ∀ l : List α, D.szs (l.map f) ≤ k * l.length
  | [] => Nat.zero_le _
  | a :: l => by
    show D.sz (f a) + D.szs (l.map f) ≤ k * (l.length + 1)
    have := h a
    have := szs_map h l
    rw [Nat.mul_add]
    omega
theorem q2_ok {Ds : List D} {a1 a3 a4 a5 a6 a8 a9 a10 a11 : Option D} (hh : ∀ i, i < 3 → ∃ v, Ds[i]? = some v ∧ R.f d 21 [.int (i : Nat), .str s, .non] M = .ok v M ∧ R.f d 15 [v, v] M = .ok (.bl true) M) : ∃ a2, forL R ⟨d, none⟩ (.one 2) (rngL 0 3) none q2 (rngL 0 3) [some (.str s), a1, none, a3, a4, a5, a6, some (.tl Ds), a8, a9, a10, a11] M = .nx [some (.str s), a1, a2, a3, a4, a5, a6, some (.tl Ds), a8, a9, a10, a11] M := by
  obtain ⟨ρ2, M2, e1, a2, rfl, rfl⟩ := for_nx (P := pg) (c := ⟨d, none⟩) (g := .one 2) (all := rngL 0 3) (b := q2)
    (fun i ρ M' => ∃ a2, M' = M ∧ ρ = [some (.str s), a1, a2, a3, a4, a5, a6, some (.tl Ds), a8, a9, a10, a11]) (l := rngL 0 3) (s := 0) (ρ := [some (.str s), a1, none, a3, a4, a5, a6, some (.tl Ds), a8, a9, a10, a11]) (M := M) (by
    rintro i x ρ M' hi ⟨a2, rfl, rfl⟩
    obtain ⟨hil, rfl⟩ := rngL_get hi
    obtain ⟨v, g1, g2, g3⟩ := hh i hil
    rw [Int.zero_add]
    refine ⟨_, [some (.str s), a1, some (.int (i : Nat)), a3, a4, a5, a6, some (.tl Ds), a8, a9, a10, a11], M', rfl, .inl ?_, _, rfl, rfl⟩
    simp -implicitDefEqProofs [q2, g2, atI_at, g1, g3]) ⟨none, rfl, rfl⟩
  exact ⟨a2, e1⟩
/-- a comprehension over words in a cell -/
theorem lcW {c : Cf} {e : E} {n : Nat} {ts : List Tk} {ρ : LX.Env} (f : D → D) (h : lstAt M n = some (ts.map tD)) (he : ∀ t ∈ ts, R.e c e (ρ.set 11 (some (tD t))) M = .ok (f (tD t)) M) (hz : ts.length ≤ lim) : lcL R c (.one 11) (ts.map tD) (some n) none e ρ (ts.map tD) [] M = .ok ((ts.map tD).map f) M := by
  have := lc_mapC (P := pg) (c := c) (g := .one 11) (all := ts.map tD) (e := e) (ρ := ρ) (M := M) (chk := some n) f (l := ts.map tD) (acc := []) (stays_of h) (fun x hx => by
    obtain ⟨t, ht, rfl⟩ := List.mem_map.mp hx
    exact ⟨_, rfl, he t ht⟩) (by simpa using hz)
  rwa [List.nil_append] at this
theorem c2_ok {i : Nat} {c : Cf} {n : Nat} {ts : List Tk} {ρ : LX.Env} (hi : ρ[i]? = some (some (.ref n))) (hl : ρ.length = 12) (h : lstAt M n = some (ts.map tD)) (hz : ts.length ≤ lim) : R.e c (c2 i) ρ M = .ok (.tl ((prs ts).map pD)) M := by
  have lc := lcW (M := M) (c := c) (e := .cut false (.var 11) none (some (.con (.int 2)))) (n := n) (ts := ts) (ρ := wipeE ρ [11]) (fun x => match x with
    | .tup (a :: b :: _) => .tup [a, b]
    | _ => .non) h (fun t ht => by
      have g : ((wipeE ρ [11]).set 11 (some (.tup [.str t.1, .str t.2.1, .int (t.2.2 : Nat)])))[11]? = some (some (.tup [.str t.1, .str t.2.1, .int (t.2.2 : Nat)])) := by
        rw [List.getElem?_set_self (by simp [wipeE, hl])]
      have cu : cutL [D.str t.1, .str t.2.1, .int (t.2.2 : Nat)] none (some 2) = [.str t.1, .str t.2.1] := cutL_to (xs := [D.str t.1, .str t.2.1, .int (t.2.2 : Nat)]) (k := 2) (by simp)
      simp -implicitDefEqProofs [g, tD, cu]) hz
  have e : (ts.map tD).map (fun x => match x with
    | .tup (a :: b :: _) => D.tup [a, b]
    | _ => .non) = (prs ts).map pD := by unfold prs; rw [List.map_map, List.map_map]; rfl
  rw [e] at lc
  unfold c2
  simp -implicitDefEqProofs [hi, h]
  rw [lc]
  simp
theorem q3_ok {w4 f5 v7 : D} {B : Nat} {a1 a2 a8 : Option D} {all : List D} (hd : 8 < d) (hs : s.length ≤ 1000000) (hc : (∃ ts, tok s.length s 1 = .ok ts ∧ w4 = .ref B ∧ f5 = .non) ∨ ∃ l w, tok s.length s 1 = .error (l, w) ∧ f5 = .tup [.int (l : Nat), .str w]) : ∀ (vs : List (List Nat)) (a3 a6 a9 a10 : Option D) (H : MH), (∀ u ∈ vs, u.length ≤ 1000000) → Cl H → M.length ≤ H.length → H.take M.length = M → (∀ ts, tok s.length s 1 = .ok ts → lstAt H B = some (ts.map tD)) →
    ∃ a3' a6' a9' a10' H', Cl H' ∧ H'.take M.length = M ∧ (∀ ts, tok s.length s 1 = .ok ts → lstAt H' B = some (ts.map tD)) ∧ forL R ⟨d, none⟩ (.one 3) all none q3 (vs.map .str) [some (.str s), a1, a2, a3, some w4, some f5, a6, some v7, a8, a9, a10, none] H = .nx [some (.str s), a1, a2, a3', some w4, some f5, a6', some v7, a8, a9', a10', none] H'
  | [], a3, a6, a9, a10, H, _, hC, hl, ht, hw => ⟨a3, a6, a9, a10, H, hC, ht, hw, for_end⟩
  | u :: vs, a3, a6, a9, a10, H, hv, hC, hl, ht, hw => by
    have hlim : lim = 16777216 := rfl
    have hu := hv u List.mem_cons_self
    have h3 := fun (H : MH) (hC : Cl H) => heard3 (M := H) (d := d) (s := s) (u := u) hC (by omega) (by omega) (by omega)
    have lw := lwords_ok (s := u) (M := H) (d := d) hC (by omega) (by omega)
    -- the step
    have step : ∃ w9 w10 a6' acc, R.ss ⟨d, none⟩ q3 [some (.str s), a1, a2, some (.str u), some w4, some f5, a6, some v7, a8, a9, a10, none] H = .nx [some (.str s), a1, a2, some (.str u), some w4, some f5, a6', some v7, a8, some w9, some w10, none] (H8 H acc) := by
      rcases lw with ⟨us', hU, lw⟩ | ⟨l2, w2, acc, hU, lw⟩
      · have hC2 := H8_cl (acc := us') hC
        have h3' := h3 (H8 H us') hC2
        rw [hU] at h3'
        rcases hc with ⟨ts, hT, rfl, rfl⟩ | ⟨l, w, hT, rfl⟩
        · rw [hT] at h3'
          refine ⟨.ref H.length, .non, some (toldD (.bl (decide (ws ts = ws us')))), us', ?_⟩
          have st := told_st (M := H8 H us') (d := d) (x := .bl (decide (ws ts = ws us'))) (by omega) hC2 rfl (by show 1 ≤ 10000000; omega)
          have gt := tok_good _ _ _ _ hT
          have gu := tok_good _ _ _ _ hU
          have hB : lstAt (H8 H us') B = some (ts.map tD) := by
            have := hw ts hT
            rw [← this]
            exact lst_snoc (lst_lt this)
          have e1 := c2_ok (M := H8 H us') (i := 4) (c := ⟨d, none⟩) (ts := ts) (ρ := [some (.str s), a1, a2, some (.str u), some (.ref B), some .non, some .non, some v7, a8, some (.ref H.length), some .non, none]) rfl rfl hB (by have := (ws_sum hT).2; omega)
          have e2 := c2_ok (M := H8 H us') (i := 9) (c := ⟨d, none⟩) (ts := us') (ρ := [some (.str s), a1, a2, some (.str u), some (.ref B), some .non, some .non, some v7, a8, some (.ref H.length), some .non, none]) rfl rfl H8_at (by have := (ws_sum hU).2; omega)
          have eq := eq_pairsL (M := H8 H us') (a := prs ts) (b := prs us') (fun p hp => by
            obtain ⟨t, ht, rfl⟩ := List.mem_map.mp hp
            exact (gt.1 t ht).asc) (fun p hp => by
            obtain ⟨t, ht, rfl⟩ := List.mem_map.mp hp
            exact (gu.1 t ht).asc)
          rw [prs_ws gt.1 gu.1] at eq
          dsimp only [due3, toldD] at h3' st ⊢
          generalize decide (ws ts = ws us') = K at *
          have e1' : R.e ⟨d, none⟩ (c2 4) [some (.str s), a1, a2, some (.str u), some (.ref B), some .non, some .non, some v7, a8, some (.ref H.length), some .non, none] (H8 H us') = .ok (.tl ((prs ts).map fun p => .tup [.str p.1, .str p.2])) (H8 H us') := e1
          have e2' : R.e ⟨d, none⟩ (c2 9) [some (.str s), a1, a2, some (.str u), some (.ref B), some .non, some .non, some v7, a8, some (.ref H.length), some .non, none] (H8 H us') = .ok (.tl ((prs us').map fun p => .tup [.str p.1, .str p.2])) (H8 H us') := e2
          generalize ((prs ts).map fun p : List Nat × List Nat => D.tup [.str p.1, .str p.2]) = P1 at *
          generalize ((prs us').map fun p : List Nat × List Nat => D.tup [.str p.1, .str p.2]) = P2 at *
          generalize hc4 : c2 4 = C4 at *
          generalize hc9 : c2 9 = C9 at *
          generalize H8 H us' = H2 at *
          unfold q3
          rw [hc4, hc9]
          simp -implicitDefEqProofs [lw, bindG, setAll, e1', e2', eq, lim, h3', st]
        · rw [hT] at h3'
          refine ⟨.ref H.length, .non, some (badD l w), us', ?_⟩
          have st := bad_st (M := H8 H us') (d := d) (l := l) (w := w) (by omega) hC2
          have ad : binD false (H8 H us') .Add (.tup [.str kTEXT]) (.tup [.int (l : Nat), .str w]) = .ok (badD l w) (H8 H us') := add_tup (by show 3 ≤ 16777216; omega)
          dsimp only [due3] at h3' ⊢
          generalize hb : badD l w = V at *
          have hn : isNon V = false := by rw [← hb]; rfl
          generalize H8 H us' = H2 at *
          generalize c2 4 = C4 at *
          unfold q3
          simp -implicitDefEqProofs [lw, bindG, setAll, lim, h3', st, ad, hn]
      · have hC2 := H8_cl (acc := acc) hC
        have h3' := h3 (H8 H acc) hC2
        rw [hU] at h3'
        rcases hc with ⟨ts, hT, rfl, rfl⟩ | ⟨l, w, hT, rfl⟩
        · rw [hT] at h3'
          refine ⟨.non, .tup [.int (l2 : Nat), .str w2], some (badD l2 w2), acc, ?_⟩
          have st := bad_st (M := H8 H acc) (d := d) (l := l2) (w := w2) (by omega) hC2
          have ad : binD false (H8 H acc) .Add (.tup [.str kTEXT]) (.tup [.int (l2 : Nat), .str w2]) = .ok (badD l2 w2) (H8 H acc) := add_tup (by show 3 ≤ 16777216; omega)
          dsimp only [due3] at h3' ⊢
          generalize hb : badD l2 w2 = V at *
          have hn : isNon V = false := by rw [← hb]; rfl
          generalize H8 H acc = H2 at *
          unfold q3
          simp -implicitDefEqProofs [lw, bindG, setAll, lim, h3', st, ad, hn]
        · rw [hT] at h3'
          refine ⟨.non, .tup [.int (l2 : Nat), .str w2], some (badD l w), acc, ?_⟩
          have st := bad_st (M := H8 H acc) (d := d) (l := l) (w := w) (by omega) hC2
          have ad : binD false (H8 H acc) .Add (.tup [.str kTEXT]) (.tup [.int (l : Nat), .str w]) = .ok (badD l w) (H8 H acc) := add_tup (by show 3 ≤ 16777216; omega)
          dsimp only [due3] at h3' ⊢
          generalize hb : badD l w = V at *
          have hn : isNon V = false := by rw [← hb]; rfl
          generalize H8 H acc = H2 at *
          unfold q3
          simp -implicitDefEqProofs [lw, bindG, setAll, lim, h3', st, ad, hn]
    obtain ⟨w9, w10, a6', acc, st⟩ := step
    have hC2 := H8_cl (acc := acc) hC
    obtain ⟨b3, b6, b9, b10, H', k1, k2, k3, k4⟩ := q3_ok hd hs hc vs (some (.str u)) a6' (some w9) (some w10) (H8 H acc) (fun v hv' => hv v (List.mem_cons_of_mem _ hv')) hC2 (by unfold H8; rw [List.length_append]; omega) (by unfold H8; rw [take_snoc_le hl, ht]) (fun ts hT => by
      have := hw ts hT
      rw [← this]
      exact lst_snoc (lst_lt this))
    refine ⟨b3, b6, b9, b10, H', k1, k2, k3, ?_⟩
    rw [List.map_cons, for_step (ρ1 := [some (.str s), a1, a2, some (.str u), some w4, some f5, a6, some v7, a8, a9, a10, none]) rfl, st]
    exact k4
end
end LK

set_option Elab.async false
set_option linter.all false
set_option maxRecDepth 1000000
set_option maxHeartbeats 4000000
namespace LK
open LX
section
variable {M : MH} {d : Nat} {s : List Nat}
def lcI (e : E) : E := .lc false [11] (.one 11) (.var 4) none e
theorem lcI_ok {e : E} {c : Cf} {n : Nat} {ts : List Tk} {ρ : LX.Env} (f : Tk → D) (hi : ρ[4]? = some (some (.ref n))) (hl : ρ.length = 12) (h : lstAt M n = some (ts.map tD)) (hz : ts.length ≤ lim) (he : ∀ t ∈ ts, ∀ ρ : LX.Env, ρ[11]? = some (some (.tup [.str t.1, .str t.2.1, .int (t.2.2 : Nat)])) → R.e c e ρ M = .ok (f t) M) : R.e c (lcI e) ρ M = .ok (.tl (ts.map f)) M := by
  have lc : lcL R c (.one 11) (ts.map tD) (some n) none e (wipeE ρ [11]) (ts.map tD) [] M = .ok (ts.map f) M := by
    have key : ∀ (l : List Tk) (acc : List D), (∀ t ∈ l, t ∈ ts) → acc.length + l.length ≤ lim → lcL R c (.one 11) (ts.map tD) (some n) none e (wipeE ρ [11]) (l.map tD) acc M = .ok (acc ++ l.map f) M := fun l => by
      induction l with
      | nil =>
        intro acc _ _
        rw [List.map_nil]
        unfold lcL
        rw [if_pos (stays_of h)]
        simp
      | cons t l ih =>
        intro acc hm hq
        have g : ((wipeE ρ [11]).set 11 (some (tD t)))[11]? = some (some (.tup [.str t.1, .str t.2.1, .int (t.2.2 : Nat)])) := by
          rw [List.getElem?_set_self (by simp [wipeE, hl])]
          rfl
        have et := he t (hm t List.mem_cons_self) _ g
        rw [List.length_cons] at hq
        rw [List.map_cons]
        unfold lcL
        rw [if_pos (stays_of h)]
        have bo : bindG (.one 11) (tD t) (wipeE ρ [11]) = some ((wipeE ρ [11]).set 11 (some (tD t))) := rfl
        rw [bo]
        generalize (wipeE ρ [11]).set 11 (some (tD t)) = ρ1 at *
        simp -implicitDefEqProofs [et]
        rw [if_pos (by omega), ih (acc ++ [f t]) (fun x hx => hm x (List.mem_cons_of_mem _ hx)) (by simp; omega)]
        simp
    have := key ts [] (fun t ht => ht) (by simpa using hz)
    rwa [List.nil_append] at this
  unfold lcI
  simp -implicitDefEqProofs [hi, h]
  rw [lc]
  simp
abbrev E22 (s : List Nat) (vs : List (List Nat)) (w4 w5 o6 o7 : Option D) : LX.Env := [some (.str s), some (.tl (vs.map .str)), none, none, w4, w5, o6, o7, none, none, none, none]
theorem asked_ok {vs : List (List Nat)} (hM : Cl M) (hd : 9 < d) (hs : s.length ≤ 1000000) (hv : ∀ u ∈ vs, u.length ≤ 1000000) : R.f d 22 [.str s, .tl (vs.map .str)] M = .ok (.bl true) M := by
  have hlim : lim = 16777216 := rfl
  obtain ⟨d, rfl⟩ : ∃ e, d = e + 1 := ⟨d - 1, by omega⟩
  have eb : f_22.body = [.unp [4, 5] (.call 17 [.var 0]), .ite (.cmp .IsNot (.var 5) (.con .non)) [.set 6 (.bin false .Add (.tup [.con (.str kTEXT)]) (.var 5)), .set 7 (.lst false [.var 6, .var 6, .var 6])] [.set 7 (.lst false [.tup [.con (.str kTOLD), .fn false .tuple [.var 4]], .tup [.con (.str kTOLD), .fn false .tuple [lcI (.ix (.var 11) (.con (.int 0)))]], .tup [.con (.str kTOLD), .meth .join (.con (.str [32])) [lcI (.ix (.var 11) (.con (.int 1)))]]])], .for (.one 2) (.rng1 (.con (.int 3))) q2, .for (.one 3) (.var 1) q3, .ite (.cmp .Is (.var 5) (.con .non)) [.set 8 (.meth .join (.con (.str [32])) [lcI (.ix (.var 11) (.con (.int 1)))]), .ret (.call 15 [.call 21 [.con (.int 0), .var 8, .con .non], .tup [.con (.str kTOLD), .fn false .tuple [lcI (.bin false .Add (.cut false (.var 11) none (some (.con (.int 2)))) (.tup [.con (.int 1)]))]]])] [], .ret (.con (.bl true))] := rfl
  have r3 : rng1D (.int 3) = some (rngL 0 3) := rng1_nat (n := 3) (by decide)
  rw [call_eq (t := f_22) rfl rfl]
  show endF true M.length (R.ss ⟨d, none⟩ f_22.body (E22 s vs none none none none) M) = _
  rw [eb]
  rcases lwords_ok (s := s) (M := M) (d := d) hM (by omega) (by omega) with ⟨ts, hT, lw⟩ | ⟨l, w, acc, hT, lw⟩
  · have hC := H8_cl (acc := ts) hM
    obtain ⟨gt, sm⟩ := tok_good _ _ _ _ hT
    obtain ⟨sm1, sm2⟩ := ws_sum hT
    have hB := H8_at (M := M) (acc := ts)
    have lws : (ws ts).length = ts.length := by simp [ws]
    -- what is due
    have hk : ∀ (H : MH), lstAt H M.length = some (ts.map tD) → ∀ (a2 a3 o6 o7 o8 o9 o10 : Option D), R.e ⟨d, none⟩ (lcI (.ix (.var 11) (.con (.int 0)))) [some (.str s), some (.tl (vs.map .str)), a2, a3, some (.ref M.length), some .non, o6, o7, o8, o9, o10, none] H = .ok (.tl (ts.map fun t => .str t.1)) H := fun H hB a2 a3 o6 o7 o8 o9 o10 => lcI_ok (fun t => .str t.1) rfl rfl hB (by omega) (fun t ht ρ hρ => by simp -implicitDefEqProofs [hρ, atI_0])
    have hw : ∀ (H : MH), lstAt H M.length = some (ts.map tD) → ∀ (a2 a3 o6 o7 o8 o9 o10 : Option D), R.e ⟨d, none⟩ (lcI (.ix (.var 11) (.con (.int 1)))) [some (.str s), some (.tl (vs.map .str)), a2, a3, some (.ref M.length), some .non, o6, o7, o8, o9, o10, none] H = .ok (.tl ((ws ts).map .str)) H := fun H hB a2 a3 o6 o7 o8 o9 o10 => by
      have := lcI_ok (M := H) (c := ⟨d, none⟩) (e := .ix (.var 11) (.con (.int 1))) (ρ := [some (.str s), some (.tl (vs.map .str)), a2, a3, some (.ref M.length), some .non, o6, o7, o8, o9, o10, none]) (fun t => .str t.2.1) rfl rfl hB (by omega) (fun t ht ρ hρ => by simp -implicitDefEqProofs [hρ, atI_1])
      rw [this]
      unfold ws
      rw [List.map_map]
      rfl
    have jo : ∀ H, methD H .join (.str [32]) [.tl ((ws ts).map .str)] = .ok (.str (joinS [32] (ws ts))) H := fun H => join32 rfl (by omega)
    have h0 := heard0 (s := s) (y := .non) (M := H8 M ts) (d := d) hC (by omega) (by omega)
    have h1 := heard1 (s := s) (y := .non) (M := H8 M ts) (d := d) hC (by omega) (by omega)
    have h2 := heard2 (s := s) (y := .non) (M := H8 M ts) (d := d) hC (by omega) (by omega)
    rw [hT] at h0 h1 h2
    have z0 : D.pl (.tup (ts.map tD)) = true := pls_map (fun _ => rfl) ts
    have z0' : D.sz (.tup (ts.map tD)) ≤ 10000000 := by
      have := szs_map (f := tD) (k := 4) (fun _ => Nat.le_refl _) ts
      show 1 + D.szs (ts.map tD) ≤ _
      omega
    have st0 := told_st (M := H8 M ts) (d := d) (x := .tup (ts.map tD)) (by omega) hC z0 z0'
    have st1 := told_st (M := H8 M ts) (d := d) (x := .tup (ts.map fun t => .str t.1)) (by omega) hC (pls_map (fun _ => rfl) ts) (by
      have := szs_map (f := fun t : Tk => D.str t.1) (k := 1) (fun _ => Nat.le_refl _) ts
      show 1 + D.szs (ts.map fun t => .str t.1) ≤ _
      omega)
    have st2 := told_st (M := H8 M ts) (d := d) (x := .str (joinS [32] (ws ts))) (by omega) hC rfl (by show 1 ≤ 10000000; omega)
    obtain ⟨a2, p2⟩ := q2_ok (M := H8 M ts) (d := d) (s := s) (Ds := [toldD (.tup (ts.map tD)), toldD (.tup (ts.map fun t => .str t.1)), toldD (.str (joinS [32] (ws ts)))]) (a1 := some (.tl (vs.map .str))) (a3 := none) (a4 := some (.ref M.length)) (a5 := some .non) (a6 := none) (a8 := none) (a9 := none) (a10 := none) (a11 := none) (fun i hi => by
      match i, hi with
      | 0, _ => exact ⟨_, rfl, h0, st0⟩
      | 1, _ => exact ⟨_, rfl, h1, st1⟩
      | 2, _ => exact ⟨_, rfl, h2, st2⟩)
    obtain ⟨b3, b6, b9, b10, H', k1, k2, k3, p3⟩ := q3_ok (M := M) (d := d) (s := s) (w4 := .ref M.length) (f5 := .non) (v7 := .tl [toldD (.tup (ts.map tD)), toldD (.tup (ts.map fun t => .str t.1)), toldD (.str (joinS [32] (ws ts)))]) (B := M.length) (a1 := some (.tl (vs.map .str))) (a2 := a2) (a8 := none) (all := vs.map .str) (by omega) hs (.inl ⟨ts, hT, rfl, rfl⟩) vs none none none none (H8 M ts) hv hC (by unfold H8; rw [List.length_append]; omega) H8_take (fun ts' h => by
      rw [hT] at h
      injection h with h
      subst h
      exact hB)
    have hB' := k3 ts hT
    -- the plain text
    have lp := join_len (ws ts)
    have h4 := heard0 (s := joinS [32] (ws ts)) (y := .non) (M := H') (d := d) k1 (by omega) (by omega)
    have rt := retok ts (joinS [32] (ws ts)).length 1 gt (Nat.le_refl _)
    have rt' : tok (joinS [32] (ws ts)).length (joinS [32] (ws ts)) 1 = .ok (ts.map fun t => (t.1, t.2.1, 1)) := rt
    rw [rt'] at h4
    have eM : (ts.map fun t => ((t.1, t.2.1, 1) : Tk)).map tD = ts.map fun t => .tup [.str t.1, .str t.2.1, .int 1] := by rw [List.map_map]; rfl
    dsimp only [due0, toldD] at h4
    rw [eM] at h4
    have hq : R.e ⟨d, none⟩ (lcI (.bin false .Add (.cut false (.var 11) none (some (.con (.int 2)))) (.tup [.con (.int 1)]))) [some (.str s), some (.tl (vs.map .str)), a2, b3, some (.ref M.length), some .non, b6, some (.tl [toldD (.tup (ts.map tD)), toldD (.tup (ts.map fun t => .str t.1)), toldD (.str (joinS [32] (ws ts)))]), some (.str (joinS [32] (ws ts))), b9, b10, none] H' = .ok (.tl (ts.map fun t => .tup [.str t.1, .str t.2.1, .int 1])) H' := lcI_ok (fun t => .tup [.str t.1, .str t.2.1, .int 1]) rfl rfl hB' (by omega) (fun t ht ρ hρ => by
      have cu : cutL [D.str t.1, .str t.2.1, .int (t.2.2 : Nat)] none (some 2) = [.str t.1, .str t.2.1] := cutL_to (xs := [D.str t.1, .str t.2.1, .int (t.2.2 : Nat)]) (k := 2) (by simp)
      have ad : binD false H' .Add (.tup [.str t.1, .str t.2.1]) (.tup [.int 1]) = .ok (.tup [.str t.1, .str t.2.1, .int 1]) H' := add_tup (by show 3 ≤ 16777216; omega)
      simp -implicitDefEqProofs [hρ, cu, ad, lim])
    have st4 := told_st (M := H') (d := d) (x := .tup (ts.map fun t => .tup [.str t.1, .str t.2.1, .int 1])) (by omega) k1 (pls_map (fun _ => rfl) ts) (by
      have := szs_map (f := fun t : Tk => D.tup [.str t.1, .str t.2.1, .int 1]) (k := 4) (fun _ => Nat.le_refl _) ts
      show 1 + D.szs (ts.map fun t => .tup [.str t.1, .str t.2.1, .int 1]) ≤ _
      omega)
    have hk1 := hk (H8 M ts) hB
    have hw1 := hw (H8 M ts) hB
    have hw2 := hw H' hB'
    rw [← endF_vC (M := M) (M' := H') (d := .bl true) rfl k2 hM]
    simp only [E22]
    dsimp only [toldD] at p2 p3 h4 st4 hq
    generalize (ts.map fun t : Tk => D.tup [.str t.1, .str t.2.1, .int 1]) = V4 at *
    generalize joinS [32] (ws ts) = P at *
    generalize (ws ts).map D.str = W at *
    generalize (ts.map fun t : Tk => D.str t.1) = K1 at *
    generalize ts.map tD = A at *
    generalize vs.map D.str = Vs at *
    generalize lcI (.ix (.var 11) (.con (.int 0))) = L0 at *
    generalize lcI (.ix (.var 11) (.con (.int 1))) = L1 at *
    generalize lcI (.bin false .Add (.cut false (.var 11) none (some (.con (.int 2)))) (.tup [.con (.int 1)])) = L2 at *
    generalize q2 = Q2 at *
    generalize q3 = Q3 at *
    generalize hH : H8 M ts = H2 at *
    simp -implicitDefEqProofs [E22, lw, hH, bindG, setAll, hB, hk1, hw1, jo, lim, r3]
    rw [p2]
    simp -implicitDefEqProofs
    rw [p3]
    simp -implicitDefEqProofs [hw2, jo, h4, hq, st4, lim]
  · have hC := H8_cl (acc := acc) hM
    have h0 := heard0 (s := s) (y := .non) (M := H8 M acc) (d := d) hC (by omega) (by omega)
    have h1 := heard1 (s := s) (y := .non) (M := H8 M acc) (d := d) hC (by omega) (by omega)
    have h2 := heard2 (s := s) (y := .non) (M := H8 M acc) (d := d) hC (by omega) (by omega)
    rw [hT] at h0 h1 h2
    have st := bad_st (M := H8 M acc) (d := d) (l := l) (w := w) (by omega) hC
    obtain ⟨a2, p2⟩ := q2_ok (M := H8 M acc) (d := d) (s := s) (Ds := [badD l w, badD l w, badD l w]) (a1 := some (.tl (vs.map .str))) (a3 := none) (a4 := some .non) (a5 := some (.tup [.int (l : Nat), .str w])) (a6 := some (badD l w)) (a8 := none) (a9 := none) (a10 := none) (a11 := none) (fun i hi => by
      match i, hi with
      | 0, _ => exact ⟨_, rfl, h0, st⟩
      | 1, _ => exact ⟨_, rfl, h1, st⟩
      | 2, _ => exact ⟨_, rfl, h2, st⟩)
    obtain ⟨b3, b6, b9, b10, H', k1, k2, k3, p3⟩ := q3_ok (M := M) (d := d) (s := s) (w4 := .non) (f5 := .tup [.int (l : Nat), .str w]) (v7 := .tl [badD l w, badD l w, badD l w]) (B := M.length) (a1 := some (.tl (vs.map .str))) (a2 := a2) (a8 := none) (all := vs.map .str) (by omega) hs (.inr ⟨l, w, hT, rfl⟩) vs none (some (badD l w)) none none (H8 M acc) hv hC (by unfold H8; rw [List.length_append]; omega) H8_take (fun ts' h => by
      rw [hT] at h
      cases h)
    have ad : binD false (H8 M acc) .Add (.tup [.str kTEXT]) (.tup [.int (l : Nat), .str w]) = .ok (badD l w) (H8 M acc) := add_tup (by show 3 ≤ 16777216; omega)
    rw [← endF_vC (M := M) (M' := H') (d := .bl true) rfl k2 hM]
    simp only [E22]
    generalize badD l w = V at *
    generalize vs.map D.str = Vs at *
    generalize lcI (.ix (.var 11) (.con (.int 0))) = L0 at *
    generalize lcI (.ix (.var 11) (.con (.int 1))) = L1 at *
    generalize lcI (.bin false .Add (.cut false (.var 11) none (some (.con (.int 2)))) (.tup [.con (.int 1)])) = L2 at *
    generalize q2 = Q2 at *
    generalize q3 = Q3 at *
    generalize hH : H8 M acc = H2 at *
    simp -implicitDefEqProofs [E22, lw, hH, bindG, setAll, lim, r3, ad]
    rw [p2]
    simp -implicitDefEqProofs
    rw [p3]
    simp -implicitDefEqProofs
end
end LK

set_option Elab.async false
set_option linter.all false
set_option maxRecDepth 1000000
set_option maxHeartbeats 4000000
namespace LK
open LX
theorem tapN {gs : List Int} {n : Int} {m : Nat} {N : MH} {d : Nat} (hd : 0 < d) (hm : 0 < m) (hm2 : m ≤ 1000000) (hN : Nr N) : ∃ gs' n' t, t < m ∧ R.f d 14 [.ref 1, .int (m : Nat)] (V gs n N) = .ok (.int (t : Nat)) (V gs' n' N) := by
  obtain ⟨d, rfl⟩ : ∃ e, d = e + 1 := ⟨d - 1, by omega⟩
  obtain ⟨gs', n', t, h0, h1, h2⟩ := tap (gs := gs) (n := n) (m := (m : Int)) (N := N) (d := d) (by omega) (by omega) hN
  refine ⟨gs', n', t.toNat, by omega, ?_⟩
  rw [show ((t.toNat : Nat) : Int) = t by omega]
  exact h2
/-! ### names -/
def nameB : D → Bool
  | .str w => decide (1 ≤ w.length) && (decide (w.length ≤ 8) && (!kept w && ((match w with
    | [] => false
    | c :: _ => inS c SM) && w.all fun c => inS c (SM ++ FG))))
  | _ => false
theorem nameB_cons {c : Nat} {r : List Nat} (h8 : (c :: r).length ≤ 8) (hk : kept (c :: r) = false) : nameB (.str (c :: r)) = (inS c SM && (c :: r).all fun c => inS c (SM ++ FG)) := by
  have h1 : 1 ≤ (c :: r).length := by simp
  unfold nameB
  dsimp only
  rw [decide_eq_true h1, decide_eq_true h8, hk]
  rfl
def keptB : D → Bool
  | .str w => kept w
  | _ => false
section
variable {M : MH} {d : Nat} {x : D}
theorem iskept_ok (hM : Cl M) (hd : 0 < d) : R.f d 2 [x] M = .ok (.bl (keptB x)) M := by
  obtain ⟨d, rfl⟩ : ∃ e, d = e + 1 := ⟨d - 1, by omega⟩
  have fin : endF true M.length (.rt (.bl (keptB x)) M) = .ok (.bl (keptB x)) M := endF_vC rfl (by simp) hM
  rw [call_eq (t := f_2) rfl rfl, ← fin]
  cases x with
  | str w => simp -implicitDefEqProofs [f_2, startE, isKind, kindOf, keptB, in_kept]
  | _ => simp -implicitDefEqProofs [f_2, startE, isKind, kindOf, keptB]
theorem isname_ok (hM : Cl M) (hd : 1 < d) : R.f d 3 [x] M = .ok (.bl (nameB x)) M := by
  obtain ⟨d, rfl⟩ : ∃ e, d = e + 1 := ⟨d - 1, by omega⟩
  have fin : ∀ b, endF true M.length (.rt (.bl b) M) = .ok (.bl b) M := fun b => endF_vC rfl (by simp) hM
  have ad : binD false M .Add (.str SM) (.str FG) = .ok (.str (SM ++ FG)) M := add_str (by decide)
  have so := fun w : List Nat => signs_ok (w := w) (s := SM ++ FG) (M := M) (d := d) hM (by omega)
  rw [call_eq (t := f_3) rfl rfl]
  cases x with
  | str w =>
    have ik := in_kept (M := M) (w := w)
    have sw := so w
    show endF true M.length (R.ss ⟨d, none⟩ f_3.body [some (.str w)] M) = _
    by_cases h1 : 1 ≤ w.length
    · have h1' : (1 : Int) ≤ (w.length : Int) := by omega
      by_cases h8 : w.length ≤ 8
      · have h8' : (w.length : Int) ≤ 8 := by omega
        cases hk : kept w with
        | true =>
          have e : nameB (.str w) = false := by simp [nameB, hk]
          rw [hk] at ik
          rw [e, ← fin]
          simp -implicitDefEqProofs [f_3, isKind, kindOf, h1', h8', ik]
        | false =>
          rw [hk] at ik
          cases w with
          | nil => simp at h1
          | cons c r =>
            simp only [List.length_cons, Int.natCast_add, Int.cast_ofNat_Int] at h1' h8'
            have h1'' : (1 : Int) ≤ (r.length : Int) + 1 := by omega
            have h8'' : (r.length : Int) + 1 ≤ 8 := by simpa using h8'
            have e : nameB (.str (c :: r)) = (inS c SM && (c :: r).all fun c => inS c (SM ++ FG)) := nameB_cons h8 hk
            rw [e]
            cases hc : inS c SM with
            | false =>
              rw [Bool.false_and, ← fin]
              simp -implicitDefEqProofs [f_3, isKind, kindOf, h1'', h8'', ik, atI_0, in_any, hc]
            | true =>
              rw [Bool.true_and, ← fin]
              generalize ((c :: r).all fun c => inS c (SM ++ FG)) = K at *
              generalize SM ++ FG = G at *
              simp -implicitDefEqProofs [f_3, isKind, kindOf, h1'', h8'', ik, atI_0, in_any, hc, ad, sw]
      · have h8' : ¬ (w.length : Int) ≤ 8 := by omega
        have e : nameB (.str w) = false := by simp [nameB, h8]
        rw [e, ← fin]
        simp -implicitDefEqProofs [f_3, isKind, kindOf, h1', h8']
    · have h1' : ¬ (1 : Int) ≤ (w.length : Int) := by omega
      have e : nameB (.str w) = false := by simp [nameB, h1]
      rw [e, ← fin]
      simp -implicitDefEqProofs [f_3, isKind, kindOf, h1']
  | _ =>
    show _ = Res.ok (D.bl false) M
    rw [← fin]
    simp -implicitDefEqProofs [f_3, startE, isKind, kindOf]
end
def FL (s : List Nat) (v : Nat) : E := .lc false [7] (.one 7) (.var v) (some (.cmp .NotIn (.var 7) (.con (.str s)))) (.var 7)
def qF (s : List Nat) : D → Bool
  | .str [c] => !inS c s
  | _ => false
theorem FL_ok {M : MH} {c : Cf} {s w : List Nat} {v : Nat} {ρ : LX.Env} (hv : ρ[v]? = some (some (.str w))) (hl : ρ.length = 8) (hz : w.length ≤ lim) : ∃ l : List D, (((l.length : Nat) : Int) == 0) = (w.all fun c => inS c s) ∧ R.e c (FL s v) ρ M = .ok (.tl l) M := by
  have lc : lcL R c (.one 7) (w.map fun c => .str [c]) none (some (.cmp .NotIn (.var 7) (.con (.str s)))) (.var 7) (wipeE ρ [7]) (w.map fun c => .str [c]) [] M = .ok ([] ++ ((w.map fun c => D.str [c]).filter (qF s)).map id) M :=
    lc_fil id (qF s) (fun x hx => by
      obtain ⟨c, hc, rfl⟩ := List.mem_map.mp hx
      have g : ((wipeE ρ [7]).set 7 (some (.str [c])))[7]? = some (some (.str [c])) := List.getElem?_set_self (by simp [wipeE, hl])
      refine ⟨_, rfl, ?_, fun _ => ?_⟩
      · generalize (wipeE ρ [7]).set 7 (some (.str [c])) = ρ1 at *
        simp -implicitDefEqProofs [g, notin_any, qF]
      · generalize (wipeE ρ [7]).set 7 (some (.str [c])) = ρ1 at *
        simp -implicitDefEqProofs [g]) (by simpa using hz)
  rw [List.nil_append, List.map_id] at lc
  refine ⟨(w.map fun c => D.str [c]).filter (qF s), ?_, by
    unfold FL
    simp -implicitDefEqProofs [hv]
    rw [lc]
    simp⟩
  rw [Bool.eq_iff_iff, beq_iff_eq, List.all_eq_true]
  constructor
  · intro h c hc
    cases q : inS c s with
    | true => rfl
    | false =>
      exfalso
      have m : D.str [c] ∈ ((w.map fun c => D.str [c]).filter (qF s)) := List.mem_filter.mpr ⟨List.mem_map.mpr ⟨c, hc, rfl⟩, by simp [qF, q]⟩
      have := List.length_pos_of_mem m
      omega
  · intro h
    have e : ((w.map fun c => D.str [c]).filter (qF s)) = [] := List.filter_eq_nil_iff.mpr fun x hx => by
      obtain ⟨c, hc, rfl⟩ := List.mem_map.mp hx
      simp [qF, h c hc]
    rw [e]
    rfl
abbrev KL : D := .tl [.str [108, 101, 116], .str [119, 101, 97, 118, 101], .str [109, 105, 114, 114, 111, 114], .str [117, 112, 115, 105, 100, 101], .str [115, 119, 97, 112], .str [101, 97, 99, 104], .str [98, 101, 115, 105, 100, 101], .str [98, 101, 108, 111, 119], .str [105, 102], .str [116, 104, 101, 110], .str [101, 108, 115, 101], .str [101, 110, 100]]
abbrev SF : List Nat := [97, 98, 99, 100, 101, 102, 103, 104, 105, 106, 107, 108, 109, 110, 111, 112, 113, 114, 115, 116, 117, 118, 119, 120, 121, 122, 48, 49, 50, 51, 52, 53, 54, 55, 56, 57]
def b24 : List S := [.set 5 (.and (.isi [.str] (.var 3)) (.and (.chain .LtE .LtE (.con (.int 1)) (.fn false .len [.var 3]) (.con (.int 8))) (.and (.cmp .NotIn (.var 3) (.var 1)) (.cmp .In (.ix (.var 3) (.con (.int 0))) (.con (.str SM)))))), .set 5 (.and (.var 5) (.cmp .Eq (.fn false .len [FL SF 3]) (.con (.int 0)))), .ite (.not (.truth (.call 15 [.tup [.call 3 [.var 3], .call 2 [.var 3]], .tup [.var 5, .and (.isi [.str] (.var 3)) (.cmp .In (.var 3) (.var 1))]]))) [.ret (.con (.bl false))] []]
theorem notin_keptL {M : MH} {w : List Nat} : cmpD M .NotIn (.str w) KL = some (!kept w) := by
  have := in_keptL (M := M) (w := w)
  show (inD M (.str w) KL).map not = _
  have e : inD M (.str w) KL = some (kept w) := this
  rw [e]
  rfl
theorem step24 {M : MH} {d : Nat} {x : D} {a0 a2 a4 a5 a6 : Option D} (hM : Cl M) (hd : 2 < d) (hx : (∃ w, x = .str w ∧ w.length ≤ 1000) ∨ isKind [.str] x = false) : ∃ a5', R.ss ⟨d, none⟩ b24 [a0, some KL, a2, some x, a4, a5, a6, none] M = .nx [a0, some KL, a2, some x, a4, some a5', a6, none] M := by
  have hlim : lim = 16777216 := rfl
  obtain ⟨d, rfl⟩ : ∃ e, d = e + 1 := ⟨d - 1, by omega⟩
  have n1 := isname_ok (x := x) (d := d + 1) hM (by omega)
  have n2 := iskept_ok (x := x) (d := d + 1) hM (by omega)
  have st : ∀ a b, R.f (d + 1) 15 [.tup [.bl a, .bl b], .tup [.bl a, .bl b]] M = .ok (.bl true) M := fun a b => same_true (d := d) rfl (by show 3 ≤ 16777216; omega) hM
  rcases hx with ⟨w, rfl, hw⟩ | hx
  · have k1 := notin_keptL (M := M) (w := w)
    have k2 : cmpD M .In (.str w) KL = some (kept w) := in_keptL
    have eS : SM ++ FG = SF := rfl
    obtain ⟨l, hl, le⟩ := FL_ok (M := M) (c := ⟨d + 1, none⟩) (s := SF) (w := w) (v := 3) (ρ := [a0, some KL, a2, some (.str w), a4, some (.bl true), a6, none]) rfl rfl (by omega)
    have s1 : ∃ b : Bool, R.ss ⟨d + 1, none⟩ (b24.take 2) [a0, some KL, a2, some (.str w), a4, a5, a6, none] M = .nx [a0, some KL, a2, some (.str w), a4, some (.bl b), a6, none] M ∧ b = nameB (.str w) := by
      show ∃ b : Bool, R.ss ⟨d + 1, none⟩ [.set 5 (.and (.isi [.str] (.var 3)) (.and (.chain .LtE .LtE (.con (.int 1)) (.fn false .len [.var 3]) (.con (.int 8))) (.and (.cmp .NotIn (.var 3) (.var 1)) (.cmp .In (.ix (.var 3) (.con (.int 0))) (.con (.str SM)))))), .set 5 (.and (.var 5) (.cmp .Eq (.fn false .len [FL SF 3]) (.con (.int 0))))] _ M = _ ∧ _
      generalize KL = K at *
      generalize FL SF 3 = F at *
      by_cases h1 : 1 ≤ w.length
      · have h1' : (1 : Int) ≤ (w.length : Int) := by omega
        by_cases h8 : w.length ≤ 8
        · have h8' : (w.length : Int) ≤ 8 := by omega
          cases hk : kept w with
          | true =>
            rw [hk] at k1
            refine ⟨false, ?_, by simp [nameB, hk]⟩
            simp -implicitDefEqProofs [isKind, kindOf, h1', h8', k1]
          | false =>
            rw [hk] at k1
            cases w with
            | nil => simp at h1
            | cons c r =>
              have h1'' : (1 : Int) ≤ (r.length : Int) + 1 := by omega
              have h8'' : (r.length : Int) + 1 ≤ 8 := by simp at h8'; omega
              have e : nameB (.str (c :: r)) = (inS c SM && (c :: r).all fun c => inS c (SM ++ FG)) := nameB_cons h8 hk
              rw [eS, ← hl] at e
              cases hc : inS c SM with
              | false =>
                refine ⟨false, ?_, by rw [e, hc]; rfl⟩
                simp -implicitDefEqProofs [isKind, kindOf, h1'', h8'', k1, atI_0, in_any, hc]
              | true =>
                refine ⟨((l.length : Int) == 0), ?_, by rw [e, hc]; rfl⟩
                simp -implicitDefEqProofs [isKind, kindOf, h1'', h8'', k1, atI_0, in_any, hc, le]
        · have h8' : ¬ (w.length : Int) ≤ 8 := by omega
          refine ⟨false, ?_, by simp [nameB, h8]⟩
          simp -implicitDefEqProofs [isKind, kindOf, h1', h8']
      · have h1' : ¬ (1 : Int) ≤ (w.length : Int) := by omega
        refine ⟨false, ?_, by simp [nameB, h1]⟩
        simp -implicitDefEqProofs [isKind, kindOf, h1']
    obtain ⟨b, s1, rfl⟩ := s1
    refine ⟨.bl (nameB (.str w)), ?_⟩
    have ea : b24 = b24.take 2 ++ b24.drop 2 := rfl
    rw [ea, ss_app, s1]
    have ek : keptB (.str w) = kept w := rfl
    rw [ek] at n2
    show R.ss ⟨d + 1, none⟩ [.ite (.not (.truth (.call 15 [.tup [.call 3 [.var 3], .call 2 [.var 3]], .tup [.var 5, .and (.isi [.str] (.var 3)) (.cmp .In (.var 3) (.var 1))]]))) [.ret (.con (.bl false))] []] [a0, some KL, a2, some (.str w), a4, some (.bl (nameB (.str w))), a6, none] M = _
    generalize KL = K at *
    generalize nameB (.str w) = B at *
    generalize kept w = C at *
    simp -implicitDefEqProofs [n1, n2, isKind, kindOf, k2, st, lim]
  · have e1 : nameB x = false := by cases x <;> first | rfl | cases hx
    have e2 : keptB x = false := by cases x <;> first | rfl | cases hx
    rw [e1] at n1
    rw [e2] at n2
    refine ⟨.bl false, ?_⟩
    unfold b24
    generalize KL = K at *
    generalize FL SF 3 = F at *
    simp -implicitDefEqProofs [hx, n1, n2, st, lim]
end LK

set_option Elab.async false
set_option linter.all false
set_option maxRecDepth 1000000
set_option maxHeartbeats 4000000
namespace LK
open LX
abbrev NI : List Nat := [97, 98, 122, 48, 57, 65, 90, 95, 32]
abbrev N3 : List Nat := [97, 98, 122]
abbrev N5 : List Nat := [97, 98, 122, 48, 57]
theorem ni_1 : ∀ c ∈ NI, inS c N3 = inS c SM ∧ inS c N5 = inS c (SM ++ FG) := by decide
theorem ni_2 : ∀ w ∈ KP, ∃ c ∈ w, c ∉ NI := by decide
theorem ni_kept {w : List Nat} (h : ∀ c ∈ w, c ∈ NI) : kept w = false := by
  cases q : kept w with
  | false => rfl
  | true =>
    obtain ⟨c, h1, h2⟩ := ni_2 w (of_decide_eq_true q)
    exact absurd (h c h1) h2
def w24 : E := .meth .join (.con (.str [])) [.lc false [6] (.one 6) (.rng1 (.call 14 [.var 0, .con (.int 11)])) none (.ix (.con (.str NI)) (.call 14 [.var 0, .con (.int 9)]))]
theorem V_clN {gs : List Int} {n : Int} {N : MH} (h : Nr N) : Cl (V gs n N) := V_cl h
theorem V_end {gs gs' : List Int} {n n' : Int} {N : MH} {x : D} (hN : Nr N) (hx : D.und 0 x = true) : endF true (V gs n N).length (.rt x (V gs' n' N)) = .ok x (V gs' n' N) := endF_vC (M := V gs' n' N) hx (List.take_length) (V_cl hN)
theorem w24_ok {gs : List Int} {n : Int} {N : MH} {d : Nat} {o1 o2 o3 o4 o5 o6 o7 : Option D} (hd : 0 < d) (hN : Nr N) : ∃ gs' n' w, (∀ c ∈ w, c ∈ NI) ∧ w.length ≤ 10 ∧ R.e ⟨d, none⟩ w24 [some (.ref 1), o1, o2, o3, o4, o5, o6, o7] (V gs n N) = .ok (.str w) (V gs' n' N) := by
  have hlim : lim = 16777216 := rfl
  obtain ⟨gs1, n1, m, hm, p1⟩ := tapN (gs := gs) (n := n) (m := 11) (N := N) (d := d) hd (by omega) (by omega) hN
  obtain ⟨r, M', e1, gs2, n2, l, c1, c2, rfl, rfl⟩ := lc_nx (P := pg) (c := ⟨d, none⟩) (g := .one 6) (all := rngL 0 m) (e := .ix (.con (.str NI)) (.call 14 [.var 0, .con (.int 9)])) (ρ := [some (.ref 1), o1, o2, o3, o4, o5, none, o7])
    (fun i acc M' => ∃ gs n l, l.length = i ∧ (∀ c ∈ l, c ∈ NI) ∧ acc = chs l ∧ M' = V gs n N) (l := rngL 0 m) (acc := []) (s := 0) (M := V gs1 n1 N) (by
    rintro i x acc M' hi ⟨gs, n, l, c1, c2, rfl, rfl⟩
    obtain ⟨gs', n', t, ht, p⟩ := tapN (gs := gs) (n := n) (m := 9) (N := N) (d := d) hd (by omega) (by omega) hN
    have ht' : t < NI.length := ht
    have g : NI[t]? = some NI[t] := List.getElem?_eq_getElem ht'
    have p' : R.f d 14 [.ref 1, .int 9] (V gs n N) = .ok (.int (t : Nat)) (V gs' n' N) := p
    refine ⟨_, .str [NI[t]], V gs' n' N, rfl, ?_, gs', n', l ++ [NI[t]], by simp; omega, fun c hc => ?_, by simp [chs], rfl⟩
    · generalize NI = Z at *
      simp -implicitDefEqProofs [p', atI_at, g]
    · rcases List.mem_append.mp hc with hc | hc
      · exact c2 c hc
      · rw [List.mem_singleton.mp hc]
        exact List.getElem_mem ht') ⟨gs1, n1, [], rfl, fun c hc => (by cases hc), rfl, rfl⟩ (by rw [rngL_len]; simp; omega)
  rw [rngL_len, Nat.zero_add] at c1
  refine ⟨gs2, n2, l, c2, by omega, ?_⟩
  have rg := rng1_nat (n := m) (by omega)
  have jo := join_tl (M := V gs2 n2 N) (l := l) (by omega)
  have p1' : R.f d 14 [.ref 1, .int 11] (V gs n N) = .ok (.int (m : Nat)) (V gs1 n1 N) := p1
  unfold w24
  generalize NI = Z at *
  simp -implicitDefEqProofs [p1', rg, wipeE]
  rw [e1]
  simp -implicitDefEqProofs [jo]
def e524 : E := .and (.chain .LtE .LtE (.con (.int 1)) (.fn false .len [.var 4]) (.con (.int 8))) (.and (.cmp .In (.ix (.var 4) (.con (.int 0))) (.con (.str N3))) (.cmp .Eq (.fn false .len [FL N5 4]) (.con (.int 0))))
theorem e524_ok {M : MH} {c : Cf} {w : List Nat} {a0 a1 a2 a3 a5 a6 : Option D} (hw : ∀ c ∈ w, c ∈ NI) (hl : w.length ≤ 10) : R.e c e524 [a0, a1, a2, a3, some (.str w), a5, a6, none] M = .ok (.bl (nameB (.str w))) M := by
  have hlim : lim = 16777216 := rfl
  obtain ⟨l, hl', le⟩ := FL_ok (M := M) (c := c) (s := N5) (w := w) (v := 4) (ρ := [a0, a1, a2, a3, some (.str w), a5, a6, none]) rfl rfl (by omega)
  have hk := ni_kept hw
  unfold e524
  generalize FL N5 4 = F at *
  by_cases h1 : 1 ≤ w.length
  · have h1' : (1 : Int) ≤ (w.length : Int) := by omega
    by_cases h8 : w.length ≤ 8
    · have h8' : (w.length : Int) ≤ 8 := by omega
      cases w with
      | nil => simp at h1
      | cons c0 r =>
        have h1'' : (1 : Int) ≤ (r.length : Int) + 1 := by omega
        have h8'' : (r.length : Int) + 1 ≤ 8 := by simp at h8'; omega
        have a5 : ((c0 :: r).all fun c => inS c N5) = (c0 :: r).all fun c => inS c (SM ++ FG) := by
          have : ∀ l : List Nat, (∀ c ∈ l, c ∈ NI) → (l.all fun c => inS c N5) = l.all fun c => inS c (SM ++ FG) := fun l => by
            induction l with
            | nil => intro _; rfl
            | cons c l ih =>
              intro h
              rw [List.all_cons, List.all_cons, ih fun x hx => h x (List.mem_cons_of_mem _ hx), (ni_1 c (h c List.mem_cons_self)).2]
          exact this _ hw
        rw [nameB_cons h8 hk, ← (ni_1 c0 (hw c0 List.mem_cons_self)).1, ← a5, ← hl']
        cases hc : inS c0 N3 with
        | false => simp -implicitDefEqProofs [h1'', h8'', atI_0, in_any, hc]
        | true => simp -implicitDefEqProofs [h1'', h8'', atI_0, in_any, hc, le]
    · have h8' : ¬ (w.length : Int) ≤ 8 := by omega
      have e : nameB (.str w) = false := by simp [nameB, h8]
      rw [e]
      simp -implicitDefEqProofs [h1', h8']
  · have h1' : ¬ (1 : Int) ≤ (w.length : Int) := by omega
    have e : nameB (.str w) = false := by simp [nameB, h1]
    rw [e]
    simp -implicitDefEqProofs [h1']
theorem loop24 {M : MH} {d : Nat} {l : List D} (hM : Cl M) (hd : 2 < d) (hl : ∀ x ∈ l, (∃ w, x = .str w ∧ w.length ≤ 1000) ∨ isKind [.str] x = false) {a0 a2 a4 a5 a6 : Option D} : ∃ a3' a5', forL R ⟨d, none⟩ (.one 3) l none b24 l [a0, some KL, a2, none, a4, a5, a6, none] M = .nx [a0, some KL, a2, a3', a4, a5', a6, none] M := by
  obtain ⟨ρ2, M2, e1, a3, a5', rfl, rfl⟩ := for_nx (P := pg) (c := ⟨d, none⟩) (g := .one 3) (all := l) (b := b24)
    (fun i ρ M' => ∃ a3 a5, M' = M ∧ ρ = [a0, some KL, a2, a3, a4, a5, a6, none]) (l := l) (s := 0) (ρ := [a0, some KL, a2, none, a4, a5, a6, none]) (M := M) (by
    rintro i x ρ M' hi ⟨a3, a5, rfl, rfl⟩
    obtain ⟨a5', st⟩ := step24 (a0 := a0) (a2 := a2) (a4 := a4) (a5 := a5) (a6 := a6) hM hd (hl x (List.mem_of_getElem? hi))
    exact ⟨_, _, M', rfl, .inl st, _, _, rfl, rfl⟩) ⟨none, a5, rfl, rfl⟩
  exact ⟨a3, a5', e1⟩
def pB : D → Bool
  | .str w => decide (w.length ≤ 1000)
  | _ => true
theorem pB_of {x : D} (h : pB x = true) : (∃ w, x = .str w ∧ w.length ≤ 1000) ∨ isKind [.str] x = false := by
  cases x with
  | str w => exact .inl ⟨w, rfl, of_decide_eq_true h⟩
  | _ => exact .inr rfl
def KPD : List D := [.str [108, 101, 116], .str [119, 101, 97, 118, 101], .str [109, 105, 114, 114, 111, 114], .str [117, 112, 115, 105, 100, 101], .str [115, 119, 97, 112], .str [101, 97, 99, 104], .str [98, 101, 115, 105, 100, 101], .str [98, 101, 108, 111, 119], .str [105, 102], .str [116, 104, 101, 110], .str [101, 108, 115, 101], .str [101, 110, 100]]
theorem names_ok {gs : List Int} {n : Int} {N : MH} {d : Nat} (hd : 4 < d) (hN : Nr N) : ∃ gs' n', R.f d 24 [.ref 1] (V gs n N) = .ok (.bl true) (V gs' n' N) := by
  have hlim : lim = 16777216 := rfl
  obtain ⟨d, rfl⟩ : ∃ e, d = e + 2 := ⟨d - 2, by omega⟩
  have hM : Cl (V gs n N) := V_cl hN
  have eb : ∃ e2 e3, f_24.body = [.set 1 (.lst false (KPD.map .con)), .set 2 (.lst false e2), .for (.one 3) (.bin false .Add (.bin false .Add (.var 1) (.var 2)) (.lst false e3)) b24, .set 4 w24, .set 5 e524, .ret (.call 15 [.tup [.callk 3 1 [0] [.var 4], .callk 2 1 [0] [.var 4]], .tup [.var 5, .con (.bl false)]])]
      ∧ (∃ l2, l2.all pB = true ∧ l2.length ≤ 100 ∧ ∀ c ρ M, R.e c (.lst false e2) ρ M = .ok (.tl l2) M) ∧ (∃ l3, l3.all pB = true ∧ l3.length ≤ 100 ∧ ∀ c ρ M, R.e c (.lst false e3) ρ M = .ok (.tl l3) M) := by
    refine ⟨_, _, rfl, ⟨[.str [97], .str [122, 57], .str [97, 98, 99, 100, 101, 102, 103, 104], .str [97, 98, 99, 100, 101, 102, 103, 104, 105], .str [], .str [57, 97], .str [65], .str [97, 66], .str [97, 32, 98], .str [97, 95], .str [108, 101, 116, 115], .str [76, 101, 116], .str [108, 101, 116, 32], .str [101, 110], .str [97, 48, 49, 50, 51, 52, 53, 54], .str [97, 48, 49, 50, 51, 52, 53, 54, 55], .str [97, 98, 10], .str [10, 97], .str [48], .str [45, 97], .str [105, 102, 115], .str [101, 97, 99, 104, 115], .str [101], .str [101, 110, 100, 101, 110, 100], .str [97, 35]], by decide, by decide, ?_⟩, ⟨[.non, .int 7, .bl true, .tup [.str [97]], .tl [.str [97]], .tup [.str [108, 101, 116]], .int ((10 : Int) ^ 59), .tup []], by rfl, by decide, ?_⟩⟩
    · intro c ρ M
      simp -implicitDefEqProofs [lim]
    · intro c ρ M
      have p : ∀ M, binD false M .Pow (.int 10) (.int 59) = .ok (.int ((10 : Int) ^ 59)) M := fun M => pow_nat (k := 59) (by omega) (by decide)
      generalize (10 : Int) ^ 59 = Z at *
      simp -implicitDefEqProofs [lim, p]
  obtain ⟨e2, e3, eb, ⟨l2, b2, z2, v2⟩, ⟨l3, b3, z3, v3⟩⟩ := eb
  have kl : KPD.length = 12 := rfl
  obtain ⟨gs1, n1, w, hw, lw, p1⟩ := w24_ok (gs := gs) (n := n) (N := N) (d := d + 1) (o1 := some KL) (o2 := some (.tl l2)) (o3 := none) (o4 := none) (o5 := none) (o6 := none) (o7 := none) (by omega) hN
  obtain ⟨a3', a5', p2⟩ := loop24 (M := V gs n N) (d := d + 1) (l := KPD ++ l2 ++ l3) hM (by omega) (fun x hx => pB_of (by
    rcases List.mem_append.mp hx with hx | hx
    · rcases List.mem_append.mp hx with hx | hx
      · exact List.all_eq_true.mp (by decide : KPD.all pB = true) x hx
      · exact List.all_eq_true.mp b2 x hx
    · exact List.all_eq_true.mp b3 x hx)) (a0 := some (.ref 1)) (a2 := some (.tl l2)) (a4 := none) (a5 := none) (a6 := none)
  obtain ⟨gs1, n1, w, hw, lw, p1⟩ := w24_ok (gs := gs) (n := n) (N := N) (d := d + 1) (o1 := some KL) (o2 := some (.tl l2)) (o3 := a3') (o4 := none) (o5 := a5') (o6 := none) (o7 := none) (by omega) hN
  have hM1 : Cl (V gs1 n1 N) := V_cl hN
  have p3 := e524_ok (M := V gs1 n1 N) (c := ⟨d + 1, none⟩) (a0 := some (.ref 1)) (a1 := some KL) (a2 := some (.tl l2)) (a3 := a3') (a5 := a5') (a6 := none) hw lw
  have q1 := isname_ok (x := .str w) (d := d + 1) hM1 (by omega)
  have q2 := iskept_ok (x := .str w) (d := d + 1) hM1 (by omega)
  have ek : keptB (.str w) = false := ni_kept hw
  rw [ek] at q2
  have st : R.f (d + 1) 15 [.tup [.bl (nameB (.str w)), .bl false], .tup [.bl (nameB (.str w)), .bl false]] (V gs1 n1 N) = .ok (.bl true) (V gs1 n1 N) := same_true (d := d) rfl (by show 3 ≤ 16777216; omega) hM1
  have ad1 : binD false (V gs n N) .Add KL (.tl l2) = .ok (.tl (KPD ++ l2)) (V gs n N) := add_tl (xs := KPD) (by omega)
  have ad2 : binD false (V gs n N) .Add (.tl (KPD ++ l2)) (.tl l3) = .ok (.tl (KPD ++ l2 ++ l3)) (V gs n N) := add_tl (by rw [List.length_append]; omega)
  have v1 : R.e ⟨d + 1, none⟩ (.lst false (KPD.map .con)) [some (.ref 1), none, none, none, none, none, none, none] (V gs n N) = .ok KL (V gs n N) := by
    simp -implicitDefEqProofs [KPD, lim]
  refine ⟨gs1, n1, ?_⟩
  rw [call_eq (d := d + 1) (t := f_24) rfl rfl, ← V_end (gs := gs) (gs' := gs1) (n := n) (n' := n1) hN rfl]
  show endF true (V gs n N).length (R.ss ⟨d + 1, none⟩ f_24.body [some (.ref 1), none, none, none, none, none, none, none] (V gs n N)) = _
  have v2' := fun ρ M => v2 ⟨d + 1, none⟩ ρ M
  have v3' := fun ρ M => v3 ⟨d + 1, none⟩ ρ M
  rw [eb]
  generalize nameB (.str w) = B at *
  generalize KPD ++ l2 ++ l3 = L at *
  generalize KPD ++ l2 = L1 at *
  generalize hE1 : E.lst false (KPD.map .con) = E1 at *
  generalize E.lst false e2 = E2 at *
  generalize E.lst false e3 = E3 at *
  generalize KL = K at *
  generalize b24 = B24 at *
  generalize w24 = W24 at *
  generalize e524 = E5 at *
  simp -implicitDefEqProofs [v1, v2', v3', ad1, ad2]
  rw [p2]
  simp -implicitDefEqProofs [p1, p3, q1, q2, st, lim, permL]
end LK

set_option Elab.async false
set_option linter.all false
set_option maxRecDepth 1000000
set_option maxHeartbeats 4000000
namespace LK
open LX
/-! ### by hand -/
def rw1 : List (List Nat × List Tk) := [([119, 101, 97, 118, 101, 32, 65, 66, 32, 42, 32, 50], [([107, 101, 112, 116], [119, 101, 97, 118, 101], 1), ([99, 111, 108, 111, 117, 114, 115], [65, 66], 1), ([115, 105, 103, 110], [42], 1), ([110, 117, 109, 98, 101, 114], [50], 1)]), ([], []), ([10, 10, 32, 35, 32, 97, 10], []), ([50, 97, 98], [([110, 117, 109, 98, 101, 114], [50], 1), ([110, 97, 109, 101], [97, 98], 1)])]
def rw2 : List (List Nat × List Tk) := [([97, 66, 99], [([110, 97, 109, 101], [97], 1), ([99, 111, 108, 111, 117, 114, 115], [66], 1), ([110, 97, 109, 101], [99], 1)]), ([97, 10, 35, 98, 10, 45, 35, 99], [([110, 97, 109, 101], [97], 1), ([115, 105, 103, 110], [45], 3)])]
def wr : List (List Nat × Nat × List Nat) := [([97, 10, 48, 48, 48, 48, 48, 48, 49], 2, [108, 111, 110, 103]), ([97, 32, 48, 49, 32, 33], 1, [110, 117, 109, 98, 101, 114]), ([35, 33, 10, 33, 48, 49], 2, [115, 105, 103, 110]), ([65, 66, 67, 68, 69, 70, 71, 72, 73, 74, 75, 76, 77, 78, 79, 80, 81, 82, 83, 84, 85, 86, 87, 88, 89], 1, [108, 111, 110, 103]), ([97, 98, 99, 100, 101, 102, 103, 104, 57], 1, [108, 111, 110, 103])]
abbrev x1 : List Nat := [119, 101, 97, 118, 101, 32, 65, 66, 42, 50, 32, 35, 32, 116, 119, 105, 99, 101]
abbrev x2 : List Nat := [97, 32, 98]
abbrev x3 : List Nat := [97, 10, 98, 32, 35, 32, 99]
abbrev x4 : List Nat := [97, 98]
abbrev x5 : List Nat := [105, 102, 32, 120, 60, 57]
abbrev x6 : List Nat := [97, 32, 33]
abbrev x7 : List Nat := [48, 48]
abbrev x8 : List Nat := [97]
abbrev x9 : List Nat := [10, 48, 48]
abbrev xA : List Nat := [97, 10, 10, 48, 48]
abbrev xB : List Nat := [33]
abbrev y1 : List Nat := [119, 101, 97, 118, 101, 32, 65, 66, 32, 42, 32, 50]
def rowD (p : List Nat × List Tk) : D := .tup [.str p.1, .tup (p.2.map tD)]
def wrD (p : List Nat × Nat × List Nat) : D := .tup [.str p.1, .int (p.2.1 : Nat), .str p.2.2]
theorem rw_ok : ∀ p ∈ rw1 ++ rw2, tok p.1.length p.1 1 = .ok p.2 ∧ p.1.length ≤ 1000 ∧ p.2.length ≤ 1000 := by
  intro p hp
  simp only [rw1, rw2, List.mem_append, List.mem_cons, List.mem_nil_iff, or_false, or_assoc] at hp
  rcases hp with rfl | rfl | rfl | rfl | rfl | rfl <;> exact ⟨rfl, by decide, by decide⟩
theorem wr_ok : ∀ p ∈ wr, tok p.1.length p.1 1 = .error (p.2.1, p.2.2) ∧ p.1.length ≤ 1000 := by
  intro p hp
  simp only [wr, List.mem_cons, List.mem_nil_iff, or_false, or_assoc] at hp
  rcases hp with rfl | rfl | rfl | rfl | rfl <;> exact ⟨rfl, by decide⟩
def h1b : List S := [.ite (.not (.truth (.call 15 [.callk 8 1 [0] [.var 3], .var 4]))) [.ret (.con (.bl false))] []]
def h2b : List S := [.ite (.not (.truth (.call 15 [.call 21 [.con (.int 0), .var 3, .con .non], .tup [.con (.str kTEXT), .var 5, .var 6]]))) [.ret (.con (.bl false))] []]
section
variable {M : MH} {d : Nat}
theorem h1_ok {l : List (List Nat × List Tk)} (hM : Cl M) (hd : 8 < d) (hl : ∀ p ∈ l, tok p.1.length p.1 1 = .ok p.2 ∧ p.1.length ≤ 1000 ∧ p.2.length ≤ 1000) {a0 a1 a2 a5 a6 : Option D} : ∃ a3 a4, forL R ⟨d, none⟩ (.tup [3, 4]) (l.map rowD) none h1b (l.map rowD) [a0, a1, a2, none, none, a5, a6] M = .nx [a0, a1, a2, a3, a4, a5, a6] M := by
  have hlim : lim = 16777216 := rfl
  obtain ⟨d, rfl⟩ : ∃ e, d = e + 1 := ⟨d - 1, by omega⟩
  obtain ⟨ρ2, M2, e1, a3, a4, rfl, rfl⟩ := for_nx (P := pg) (c := ⟨d + 1, none⟩) (g := .tup [3, 4]) (all := l.map rowD) (b := h1b)
    (fun i ρ M' => ∃ a3 a4, M' = M ∧ ρ = [a0, a1, a2, a3, a4, a5, a6]) (l := l.map rowD) (s := 0) (ρ := [a0, a1, a2, none, none, a5, a6]) (M := M) (by
    rintro i x ρ M' hi ⟨a3, a4, rfl, rfl⟩
    obtain ⟨p, hp, rfl⟩ := List.mem_map.mp (List.mem_of_getElem? hi)
    obtain ⟨h1, h2, h3⟩ := hl p hp
    have wo := words_ok (s := p.1) (d := d + 1) hM (by omega) (by omega)
    rw [h1] at wo
    dsimp only at wo
    have st : R.f (d + 1) 15 [.tup (p.2.map tD), .tup (p.2.map tD)] M' = .ok (.bl true) M' := same_true (d := d) (pls_map (fun _ => rfl) p.2) (by
      have := szs_map (f := tD) (k := 4) (fun _ => Nat.le_refl _) p.2
      show 1 + D.szs (p.2.map tD) ≤ 16777216
      omega) hM
    refine ⟨[a0, a1, a2, some (.str p.1), some (.tup (p.2.map tD)), a5, a6], [a0, a1, a2, some (.str p.1), some (.tup (p.2.map tD)), a5, a6], M', rfl, .inl ?_, _, _, rfl, rfl⟩
    generalize p.2.map tD = A at *
    simp -implicitDefEqProofs [h1b, wo, st, permL]) ⟨none, none, rfl, rfl⟩
  exact ⟨a3, a4, e1⟩
theorem h2_ok {l : List (List Nat × Nat × List Nat)} (hM : Cl M) (hd : 8 < d) (hl : ∀ p ∈ l, tok p.1.length p.1 1 = .error (p.2.1, p.2.2) ∧ p.1.length ≤ 1000) {a0 a1 a2 a3 a4 : Option D} : ∃ a3' a5 a6, forL R ⟨d, none⟩ (.tup [3, 5, 6]) (l.map wrD) none h2b (l.map wrD) [a0, a1, a2, a3, a4, none, none] M = .nx [a0, a1, a2, a3', a4, a5, a6] M := by
  have hlim : lim = 16777216 := rfl
  obtain ⟨ρ2, M2, e1, a3', a5, a6, rfl, rfl⟩ := for_nx (P := pg) (c := ⟨d, none⟩) (g := .tup [3, 5, 6]) (all := l.map wrD) (b := h2b)
    (fun i ρ M' => ∃ a3 a5 a6, M' = M ∧ ρ = [a0, a1, a2, a3, a4, a5, a6]) (l := l.map wrD) (s := 0) (ρ := [a0, a1, a2, a3, a4, none, none]) (M := M) (by
    rintro i x ρ M' hi ⟨a3, a5, a6, rfl, rfl⟩
    obtain ⟨p, hp, rfl⟩ := List.mem_map.mp (List.mem_of_getElem? hi)
    obtain ⟨h1, h2⟩ := hl p hp
    have h0 := heard0 (s := p.1) (y := .non) (M := M') (d := d) hM (by omega) (by omega)
    rw [h1] at h0
    have st := bad_st (M := M') (d := d) (l := p.2.1) (w := p.2.2) (by omega) hM
    refine ⟨[a0, a1, a2, some (.str p.1), a4, some (.int (p.2.1 : Nat)), some (.str p.2.2)], [a0, a1, a2, some (.str p.1), a4, some (.int (p.2.1 : Nat)), some (.str p.2.2)], M', rfl, .inl ?_, _, _, _, rfl, rfl⟩
    dsimp only [due0, badD] at h0 st
    simp -implicitDefEqProofs [h2b, h0, st, lim]) ⟨a3, none, none, rfl, rfl⟩
  exact ⟨a3', a5, a6, e1⟩
theorem hand_ok (hM : Cl M) (hd : 10 < d) : R.f d 25 [] M = .ok (.bl true) M := by
  have hlim : lim = 16777216 := rfl
  obtain ⟨d, rfl⟩ : ∃ e, d = e + 2 := ⟨d - 2, by omega⟩
  have eb : ∃ e01 e02 e1, f_25.body = [.set 0 (.lst false e01), .set 0 (.bin false .Add (.var 0) (.lst false e02)), .for (.tup [3, 4]) (.var 0) h1b, .set 1 (.lst false e1), .for (.tup [3, 5, 6]) (.var 1) h2b, .set 2 (.tup [.callk 11 1 [0] [.con (.str x1)], .callk 12 2 [0, 1] [.con (.str x2), .con (.str x3)], .call 12 [.con (.str x4), .con (.str x2)], .callk 9 1 [0] [.con (.str x5)]]), .ite (.not (.truth (.call 15 [.var 2, .tup [.con (.str y1), .con (.bl true), .con (.bl false), .tup [.con (.str kKEPT), .con (.str kNAME), .con (.str kSIGN), .con (.str kNUM)]]]))) [.ret (.con (.bl false))] [], .ret (.call 15 [.tup [.call 21 [.con (.int 3), .con (.str x6), .con (.str x7)], .call 21 [.con (.int 3), .con (.str x8), .con (.str x9)], .call 21 [.con (.int 3), .con (.str xA), .con (.str xB)]], .tup [.tup [.con (.str kTEXT), .con (.int 1), .con (.str kSIGN)], .tup [.con (.str kTEXT), .con (.int 2), .con (.str kNUM)], .tup [.con (.str kTEXT), .con (.int 3), .con (.str kNUM)]]])]
      ∧ (∀ c ρ M, R.e c (.lst false e01) ρ M = .ok (.tl (rw1.map rowD)) M) ∧ (∀ c ρ M, R.e c (.lst false e02) ρ M = .ok (.tl (rw2.map rowD)) M) ∧ (∀ c ρ M, R.e c (.lst false e1) ρ M = .ok (.tl (wr.map wrD)) M) := by
    refine ⟨_, _, _, rfl, ?_, ?_, ?_⟩
    · intro c ρ M; simp -implicitDefEqProofs [lim, rw1, rowD, tD]
    · intro c ρ M; simp -implicitDefEqProofs [lim, rw2, rowD, tD]
    · intro c ρ M; simp -implicitDefEqProofs [lim, wr, wrD]
  obtain ⟨e01, e02, e1, eb, v1, v2, v3⟩ := eb
  have ad : binD false M .Add (.tl (rw1.map rowD)) (.tl (rw2.map rowD)) = .ok (.tl ((rw1 ++ rw2).map rowD)) M := by
    rw [List.map_append]
    exact add_tl (by decide)
  obtain ⟨a3, a4, p1⟩ := h1_ok (M := M) (d := d + 1) (l := rw1 ++ rw2) hM (by omega) rw_ok (a0 := some (.tl ((rw1 ++ rw2).map rowD))) (a1 := none) (a2 := none) (a5 := none) (a6 := none)
  obtain ⟨a3', a5, a6, p2⟩ := h2_ok (M := M) (d := d + 1) (l := wr) hM (by omega) wr_ok (a0 := some (.tl ((rw1 ++ rw2).map rowD))) (a1 := some (.tl (wr.map wrD))) (a2 := none) (a3 := a3) (a4 := a4)
  have q1 : R.f (d + 1) 11 [.str x1] M = .ok (.str y1) M := plain_ok (s := x1) (d := d + 1) hM (by omega) (by decide)
  have q2 : R.f (d + 1) 12 [.str x2, .str x3] M = .ok (.bl true) M := same_ok (s := x2) (u := x3) (d := d + 1) hM (by omega) (by decide) (by decide)
  have q3 : R.f (d + 1) 12 [.str x4, .str x2] M = .ok (.bl false) M := same_ok (s := x4) (u := x2) (d := d + 1) hM (by omega) (by decide) (by decide)
  have q4 : R.f (d + 1) 9 [.str x5] M = .ok (.tup [.str kKEPT, .str kNAME, .str kSIGN, .str kNUM]) M := kinds_ok (s := x5) (d := d + 1) hM (by omega) (by decide)
  have q5 : R.f (d + 1) 21 [.int 3, .str x6, .str x7] M = .ok (badD 1 kSIGN) M := heard3 (s := x6) (u := x7) (d := d + 1) hM (by omega) (by decide) (by decide)
  have q6 : R.f (d + 1) 21 [.int 3, .str x8, .str x9] M = .ok (badD 2 kNUM) M := heard3 (s := x8) (u := x9) (d := d + 1) hM (by omega) (by decide) (by decide)
  have q7 : R.f (d + 1) 21 [.int 3, .str xA, .str xB] M = .ok (badD 3 kNUM) M := heard3 (s := xA) (u := xB) (d := d + 1) hM (by omega) (by decide) (by decide)
  have s1 : R.f (d + 1) 15 [.tup [.str y1, .bl true, .bl false, .tup [.str kKEPT, .str kNAME, .str kSIGN, .str kNUM]], .tup [.str y1, .bl true, .bl false, .tup [.str kKEPT, .str kNAME, .str kSIGN, .str kNUM]]] M = .ok (.bl true) M := same_true (d := d) rfl (by decide) hM
  have s2 : R.f (d + 1) 15 [.tup [badD 1 kSIGN, badD 2 kNUM, badD 3 kNUM], .tup [badD 1 kSIGN, badD 2 kNUM, badD 3 kNUM]] M = .ok (.bl true) M := same_true (d := d) rfl (by decide) hM
  rw [call_eq (d := d + 1) (t := f_25) rfl rfl, ← endF_vC (M := M) (M' := M) (d := .bl true) rfl (by simp) hM]
  show endF true M.length (R.ss ⟨d + 1, none⟩ f_25.body [none, none, none, none, none, none, none] M) = _
  rw [eb]
  have i1 : ((1 : Nat) : Int) = 1 := rfl
  have i2 : ((2 : Nat) : Int) = 2 := rfl
  have i3 : ((3 : Nat) : Int) = 3 := rfl
  simp only [badD, i1, i2, i3] at q5 q6 q7 s2
  generalize (rw1 ++ rw2).map rowD = L at *
  generalize rw1.map rowD = L1 at *
  generalize rw2.map rowD = L2 at *
  generalize wr.map wrD = W at *
  generalize E.lst false e01 = E1 at *
  generalize E.lst false e02 = E2 at *
  generalize E.lst false e1 = E3 at *
  generalize h1b = B1 at *
  generalize h2b = B2 at *
  simp -implicitDefEqProofs [v1, v2, ad]
  rw [p1]
  simp -implicitDefEqProofs [v3]
  rw [p2]
  simp -implicitDefEqProofs [q1, q2, q3, q4, q5, q6, q7, s1, s2, lim, permL]
end
end LK

set_option Elab.async false
set_option linter.all false
set_option maxRecDepth 1000000
set_option maxHeartbeats 4000000
namespace LK
open LX
/-! ### drawing -/
def W1 : List (List Nat) := [[97], [98, 49], [110], [122], [97, 98, 99, 100, 101, 102, 103, 104], [120, 50, 51, 52, 53, 54, 55, 56], [108, 101, 116, 49], [119, 101, 97, 118, 101, 114], [105, 102, 102], [101, 110], [101, 97, 99, 104, 101, 115], [122, 57], [113]]
def P9 : List (List Nat) := [[32], [32], [32, 32], [10], [32, 10, 32], [10, 10], [32, 35, 32, 97, 32, 63, 32, 98, 10], [35, 10], [35, 32, 108, 101, 116, 32, 35, 35, 32, 48, 48, 55, 32, 65, 66, 10, 32]]
def T5 : List (List Nat) := [[], [], [32], [10], [35, 32, 120, 10]]
def T7 : List (List Nat) := [[], [], [32], [10], [35], [32, 35, 32, 101, 110, 100, 32, 10], [10, 10]]
def WR : List (List Nat) := [[33], [46], [95], [38], [97, 95, 98], [120, 46], [63, 65], [97, 98, 99, 100, 101, 102, 103, 104, 105], [108, 101, 116, 49, 50, 51, 52, 53, 54], [97, 97, 97, 97, 97, 97, 97, 97, 97], [49, 50, 51, 52, 53, 54, 55], [48, 48, 48, 48, 48, 48, 48], [81, 81, 81, 81, 81, 81, 81, 81, 81, 81, 81, 81, 81, 81, 81, 81, 81, 81, 81, 81, 81, 81, 81, 81, 81], [48, 48], [48, 49], [48, 48, 55], [48, 65], [39], [62], [58, 61], [123], [66, 66, 66, 66, 66, 66, 66, 66, 66, 66, 66, 66, 66, 66, 66, 66, 66, 66, 66, 66, 66, 66, 66, 66, 99], [49, 50, 97], [97, 66], [36]]
abbrev sQ : List Nat := [81, 81, 81, 81, 81, 81, 81, 81, 81, 81, 81, 81, 81, 81, 81, 81, 81, 81, 81, 81, 81, 81, 81, 81]
abbrev sX : List Nat := [65, 66, 67, 68, 69, 70, 71, 72, 73, 74, 75, 76, 77, 78, 79, 80, 81, 82, 83, 84, 85, 86, 87, 88]
structure Wd (w : List Nat) : Prop where
  p : w ≠ []
  l : w.length ≤ 30
def wdB (w : List Nat) : Bool := !w.isEmpty && decide (w.length ≤ 30)
theorem Wd.of {w : List Nat} (h : wdB w = true) : Wd w := by
  unfold wdB at h
  rw [Bool.and_eq_true, decide_eq_true_eq] at h
  refine ⟨fun e => ?_, h.2⟩
  subst e
  cases h.1
theorem dgs : ∀ t : Nat, t < 30 → wdB (digits (t : Int)) = true ∧ decide ((t : Int).natAbs.log2 < 1920) = true := by
  have q : ((List.range 30).all fun t => wdB (digits (t : Int)) && decide ((t : Int).natAbs.log2 < 1920)) = true := by decide +kernel
  intro t ht
  have := List.all_eq_true.mp q t (List.mem_range.mpr ht)
  rw [Bool.and_eq_true] at this
  exact this
/-- a word out of a list, by a tap -/
theorem ixL {c : Cf} {M M1 M2 : MH} {a b : E} {ρ : LX.Env} {L : List (List Nat)} {t : Nat} (h1 : R.e c a ρ M = .ok (.tl (L.map .str)) M1) (h2 : R.e c b ρ M1 = .ok (.int (t : Nat)) M2) (ht : t < L.length) : R.e c (.ix a b) ρ M = .ok (.str L[t]) M2 := by
  have g : (L.map D.str)[t]? = some (.str L[t]) := by rw [List.getElem?_map, List.getElem?_eq_getElem ht]; rfl
  generalize L.map D.str = A at *
  simp -implicitDefEqProofs [h1, h2, atI_at, g]
section
variable {gs : List Int} {n : Int} {N : MH} {d : Nat}
theorem word_ok (hd : 1 < d) (hN : Nr N) : ∃ gs' n' w, Wd w ∧ R.f d 18 [.ref 1] (V gs n N) = .ok (.str w) (V gs' n' N) := by
  have hlim : lim = 16777216 := rfl
  obtain ⟨d, rfl⟩ : ∃ e, d = e + 1 := ⟨d - 1, by omega⟩
  obtain ⟨gs1, n1, way, hway, p1⟩ := tapN (gs := gs) (n := n) (m := 8) (N := N) (d := d) (by omega) (by omega) (by omega) hN
  have p1' : R.f d 14 [.ref 1, .int 8] (V gs n N) = .ok (.int (way : Nat)) (V gs1 n1 N) := p1
  rw [call_eq (t := f_18) rfl rfl]
  show ∃ gs' n' w, Wd w ∧ endF true (V gs n N).length (R.ss ⟨d, none⟩ f_18.body [some (.ref 1), none, none] (V gs n N)) = _
  have eb : ∃ e1 e2 e3 e4, f_18.body = [.set 1 (.call 14 [.var 0, .con (.int 8)]), .ite (.cmp .Lt (.var 1) (.con (.int 2))) [.set 2 (.ix (.lst false e1) (.call 14 [.var 0, .con (.int 13)])), .ret (.var 2)] [], .ite (.cmp .Eq (.var 1) (.con (.int 2))) [.ret (.ix (.lst false e2) (.call 14 [.var 0, .con (.int 12)]))] [], .ite (.cmp .Eq (.var 1) (.con (.int 3))) [.ret (.ix (.lst false e3) (.call 14 [.var 0, .con (.int 5)]))] [], .ite (.cmp .Eq (.var 1) (.con (.int 4))) [.ret (.ix (.lst false e4) (.call 14 [.var 0, .con (.int 6)]))] [], .ret (.ix (.con (.str SG)) (.call 14 [.var 0, .con (.int 12)]))]
      ∧ (∀ c ρ M, R.e c (.lst false e1) ρ M = .ok (.tl (W1.map .str)) M) ∧ (∀ c ρ M, R.e c (.lst false e2) ρ M = .ok (.tl (KP.map .str)) M)
      ∧ (∀ (c : Cf) (a1 a2 : Option D) (gs : List Int) (n : Int), 0 < c.d → ∃ gs' n' t, t < 30 ∧ R.e c (.lst false e3) [some (.ref 1), a1, a2] (V gs n N) = .ok (.tl ([digits ((t : Nat) : Int), [48], [57, 57, 57, 57, 57, 57], [49, 48, 48, 48, 48, 48], [55]].map .str)) (V gs' n' N))
      ∧ (∀ (c : Cf) (a1 a2 : Option D) (gs : List Int) (n : Int), 0 < c.d → ∃ gs' n' t, t < 24 ∧ R.e c (.lst false e4) [some (.ref 1), a1, a2] (V gs n N) = .ok (.tl ([[65], [65, 66], [90, 89, 88], sQ, sX, List.replicate (1 + t) 77].map .str)) (V gs' n' N)) := by
    refine ⟨_, _, _, _, rfl, ?_, ?_, ?_, ?_⟩
    · intro c ρ M; simp -implicitDefEqProofs [lim, W1]
    · intro c ρ M; simp -implicitDefEqProofs [lim]
    · intro c a1 a2 gs n hc
      obtain ⟨gs', n', t, ht, p⟩ := tapN (gs := gs) (n := n) (m := 30) (N := N) (d := c.d) hc (by omega) (by omega) hN
      have p' : R.f c.d 14 [.ref 1, .int 30] (V gs n N) = .ok (.int (t : Nat)) (V gs' n' N) := p
      refine ⟨gs', n', t, ht, ?_⟩
      obtain ⟨g1, g2⟩ := dgs t ht
      have sd : fnD false (V gs' n' N) .str [.int ((t : Nat) : Int)] = .ok (.str (digits (t : Int))) (V gs' n' N) := by
        have e : fnD false (V gs' n' N) .str [.int ((t : Nat) : Int)] = if decide ((t : Int).natAbs.log2 < 1920) && decide ((digits (t : Int)).length ≤ lim) then .ok (.str (digits (t : Int))) (V gs' n' N) else .stuck := rfl
        rw [e, g2, decide_eq_true (by have := (Wd.of g1).l; omega)]
        rfl
      generalize digits (t : Int) = G at *
      simp -implicitDefEqProofs [p', sd, lim]
    · intro c a1 a2 gs n hc
      obtain ⟨gs', n', t, ht, p⟩ := tapN (gs := gs) (n := n) (m := 24) (N := N) (d := c.d) hc (by omega) (by omega) hN
      have p' : R.f c.d 14 [.ref 1, .int 24] (V gs n N) = .ok (.int (t : Nat)) (V gs' n' N) := p
      refine ⟨gs', n', t, ht, ?_⟩
      have m1 : ∀ M, binD false M .Mult (.str [81]) (.int 24) = .ok (.str sQ) M := fun M => mul_str (k := 24) (by omega) (by show 1 * 24 ≤ 16777216; omega)
      have m2 : ∀ M, binD false M .Mult (.str [77]) (.int (1 + (t : Int))) = .ok (.str (List.replicate (1 + t) 77)) M := fun M => by
        have := mul_str (m := false) (M := M) (z := [77]) (k := 1 + t) (by omega) (by show 1 * (1 + t) ≤ 16777216; omega)
        rw [show ((1 + t : Nat) : Int) = 1 + (t : Int) by omega] at this
        rw [this]
        have e : (List.replicate (1 + t) [77]).flatten = List.replicate (1 + t) 77 := by
          generalize 1 + t = k
          induction k with
          | zero => rfl
          | succ k ih => rw [List.replicate_succ, List.replicate_succ, List.flatten_cons, ih]; rfl
        rw [e]
      generalize List.replicate (1 + t) 77 = G at *
      simp -implicitDefEqProofs [p', m1, m2, lim]
  obtain ⟨e1, e2, e3, e4, eb, v1, v2, v3, v4⟩ := eb
  rw [eb]
  have fin : ∀ (gs' : List Int) (n' : Int) (w : List Nat), endF true (V gs n N).length (.rt (.str w) (V gs' n' N)) = .ok (.str w) (V gs' n' N) := fun gs' n' w => V_end hN rfl
  by_cases w2 : way < 2
  · have w2' : (way : Int) < 2 := by omega
    obtain ⟨gs2, n2, t, ht, p2⟩ := tapN (gs := gs1) (n := n1) (m := 13) (N := N) (d := d) (by omega) (by omega) (by omega) hN
    have p2' : R.f d 14 [.ref 1, .int 13] (V gs1 n1 N) = .ok (.int (t : Nat)) (V gs2 n2 N) := p2
    have ix := ixL (M2 := V gs2 n2 N) (c := ⟨d, none⟩) (ρ := [some (.ref 1), some (.int (way : Nat)), none]) (b := .call 14 [.var 0, .con (.int 13)]) (L := W1) (v1 ⟨d, none⟩ [some (.ref 1), some (.int (way : Nat)), none] (V gs1 n1 N)) (by simp -implicitDefEqProofs [p2']) (show t < W1.length from ht)
    refine ⟨gs2, n2, _, Wd.of (List.all_eq_true.mp (by decide : W1.all wdB = true) _ (List.getElem_mem (show t < W1.length from ht))), ?_⟩
    rw [← fin]
    generalize W1[t] = Z at *
    generalize (E.ix (.lst false e1) (.call 14 [.var 0, .con (.int 13)])) = X at *
    simp -implicitDefEqProofs [p1', w2', ix]
  have w2' : ¬ (way : Int) < 2 := by omega
  by_cases w3 : way = 2
  · subst w3
    obtain ⟨gs2, n2, t, ht, p2⟩ := tapN (gs := gs1) (n := n1) (m := 12) (N := N) (d := d) (by omega) (by omega) (by omega) hN
    have p2' : R.f d 14 [.ref 1, .int 12] (V gs1 n1 N) = .ok (.int (t : Nat)) (V gs2 n2 N) := p2
    have ix := ixL (M2 := V gs2 n2 N) (c := ⟨d, none⟩) (ρ := [some (.ref 1), some (.int 2), none]) (b := .call 14 [.var 0, .con (.int 12)]) (L := KP) (v2 ⟨d, none⟩ [some (.ref 1), some (.int 2), none] (V gs1 n1 N)) (by simp -implicitDefEqProofs [p2']) (show t < KP.length from ht)
    refine ⟨gs2, n2, _, Wd.of (List.all_eq_true.mp (by decide : KP.all wdB = true) _ (List.getElem_mem (show t < KP.length from ht))), ?_⟩
    rw [← fin]
    generalize KP[t] = Z at *
    rw [show ((2 : Nat) : Int) = 2 from rfl] at p1'
    generalize (E.ix (.lst false e2) (.call 14 [.var 0, .con (.int 12)])) = X at *
    simp -implicitDefEqProofs [p1', ix]
  have w3' : ((way : Int) == 2) = false := beq_eq_false_iff_ne.mpr (by omega)
  by_cases w4 : way = 3
  · subst w4
    obtain ⟨gs2, n2, u, hu, q2⟩ := v3 ⟨d, none⟩ (some (.int 3)) none gs1 n1 (by show 0 < d; omega)
    obtain ⟨gs3, n3, t, ht, p2⟩ := tapN (gs := gs2) (n := n2) (m := 5) (N := N) (d := d) (by omega) (by omega) (by omega) hN
    have p2' : R.f d 14 [.ref 1, .int 5] (V gs2 n2 N) = .ok (.int (t : Nat)) (V gs3 n3 N) := p2
    have hL : ∀ w ∈ [digits ((u : Nat) : Int), [48], [57, 57, 57, 57, 57, 57], [49, 48, 48, 48, 48, 48], [55]], wdB w = true := fun w hw => by
      simp only [List.mem_cons, List.mem_nil_iff, or_false] at hw
      rcases hw with rfl | rfl | rfl | rfl | rfl
      · exact (dgs u hu).1
      all_goals decide
    have hl5 : [digits ((u : Nat) : Int), [48], [57, 57, 57, 57, 57, 57], [49, 48, 48, 48, 48, 48], [55]].length = 5 := rfl
    generalize [digits ((u : Nat) : Int), [48], [57, 57, 57, 57, 57, 57], [49, 48, 48, 48, 48, 48], [55]] = L at *
    have ix := ixL (M2 := V gs3 n3 N) (c := ⟨d, none⟩) (ρ := [some (.ref 1), some (.int 3), none]) (b := .call 14 [.var 0, .con (.int 5)]) (L := L) q2 (by simp -implicitDefEqProofs [p2']) (show t < L.length by omega)
    refine ⟨gs3, n3, _, Wd.of (hL _ (List.getElem_mem (show t < L.length by omega))), ?_⟩
    rw [← fin]
    generalize L[t] = Z at *
    rw [show ((3 : Nat) : Int) = 3 from rfl] at p1'
    generalize (E.ix (.lst false e3) (.call 14 [.var 0, .con (.int 5)])) = X at *
    simp -implicitDefEqProofs [p1', ix]
  have w4' : ((way : Int) == 3) = false := beq_eq_false_iff_ne.mpr (by omega)
  by_cases w5 : way = 4
  · subst w5
    obtain ⟨gs2, n2, u, hu, q2⟩ := v4 ⟨d, none⟩ (some (.int 4)) none gs1 n1 (by show 0 < d; omega)
    obtain ⟨gs3, n3, t, ht, p2⟩ := tapN (gs := gs2) (n := n2) (m := 6) (N := N) (d := d) (by omega) (by omega) (by omega) hN
    have p2' : R.f d 14 [.ref 1, .int 6] (V gs2 n2 N) = .ok (.int (t : Nat)) (V gs3 n3 N) := p2
    have hL : ∀ w ∈ [[65], [65, 66], [90, 89, 88], sQ, sX, List.replicate (1 + u) 77], wdB w = true := fun w hw => by
      simp only [List.mem_cons, List.mem_nil_iff, or_false] at hw
      rcases hw with rfl | rfl | rfl | rfl | rfl | rfl
      · decide
      · decide
      · decide
      · decide
      · decide
      · unfold wdB
        rw [List.length_replicate, decide_eq_true (by omega), Nat.add_comm, List.replicate_succ]
        rfl
    have hl5 : [[65], [65, 66], [90, 89, 88], sQ, sX, List.replicate (1 + u) 77].length = 6 := rfl
    generalize [[65], [65, 66], [90, 89, 88], sQ, sX, List.replicate (1 + u) 77] = L at *
    have ix := ixL (M2 := V gs3 n3 N) (c := ⟨d, none⟩) (ρ := [some (.ref 1), some (.int 4), none]) (b := .call 14 [.var 0, .con (.int 6)]) (L := L) q2 (by simp -implicitDefEqProofs [p2']) (show t < L.length by omega)
    refine ⟨gs3, n3, _, Wd.of (hL _ (List.getElem_mem (show t < L.length by omega))), ?_⟩
    rw [← fin]
    generalize L[t] = Z at *
    rw [show ((4 : Nat) : Int) = 4 from rfl] at p1'
    generalize (E.ix (.lst false e4) (.call 14 [.var 0, .con (.int 6)])) = X at *
    simp -implicitDefEqProofs [p1', ix]
  have w5' : ((way : Int) == 4) = false := beq_eq_false_iff_ne.mpr (by omega)
  obtain ⟨gs3, n3, t, ht, p2⟩ := tapN (gs := gs1) (n := n1) (m := 12) (N := N) (d := d) (by omega) (by omega) (by omega) hN
  have p2' : R.f d 14 [.ref 1, .int 12] (V gs1 n1 N) = .ok (.int (t : Nat)) (V gs3 n3 N) := p2
  have g : SG[t]? = some SG[t] := List.getElem?_eq_getElem (show t < SG.length from ht)
  refine ⟨gs3, n3, [SG[t]], ⟨by simp, by simp⟩, ?_⟩
  rw [← fin]
  generalize SG[t] = Z at *
  generalize SG = Y at *
  simp -implicitDefEqProofs [p1', w2', w3', w4', w5', p2', atI_at, g]
end
end LK

set_option Elab.async false
set_option linter.all false
set_option maxRecDepth 1000000
set_option maxHeartbeats 4000000
namespace LK
open LX
theorem in_some {M : MH} {w s : List Nat} : ∃ b, cmpD M .In (.str w) (.str s) = some b := by
  match w with
  | [c] => exact ⟨_, rfl⟩
  | [] => exact ⟨_, rfl⟩
  | c :: c' :: r => exact ⟨_, rfl⟩
def k19 : E := .ite (.cmp .In (.var 5) (.con (.str SG))) (.con (.str kSIGN)) (.call 16 [.var 5])
def l19 : E := .lc false [5] (.one 5) (.tup [.var 1, .var 2]) none k19
def o19 : E := .or (.cmp .In (.con (.str kSIGN)) (.var 3)) (.or (.cmp .NotEq (.cmp .Eq (.ix (.var 3) (.con (.int 0))) (.con (.str kCOL))) (.cmp .Eq (.ix (.var 3) (.con (.int 1))) (.con (.str kCOL)))) (.and (.cmp .Eq (.ix (.var 3) (.con (.int 0))) (.con (.str kNUM))) (.cmp .NotEq (.ix (.var 3) (.con (.int 1))) (.con (.str kNUM)))))
section
variable {gs : List Int} {n : Int} {N : MH} {d : Nat}
theorem k19_ok {M : MH} {w : List Nat} {a0 a1 a2 a3 a4 : Option D} (hM : Cl M) (hd : 0 < d) (hw : Wd w) : ∃ k, R.e ⟨d, none⟩ k19 [a0, a1, a2, a3, a4, some (.str w)] M = .ok (.str k) M := by
  obtain ⟨b, hb⟩ := in_some (M := M) (w := w) (s := SG)
  cases b with
  | true =>
    refine ⟨kSIGN, ?_⟩
    unfold k19
    generalize SG = Z at *
    simp -implicitDefEqProofs [hb]
  | false =>
    have hp := hw.p
    cases w with
    | nil => exact absurd rfl hp
    | cons c r =>
      have kk := kind_ok (c := c) (r := r) (M := M) (d := d) hM hd
      refine ⟨kd (c :: r), ?_⟩
      unfold k19
      generalize SG = Z at *
      generalize kd (c :: r) = K at *
      simp -implicitDefEqProofs [hb, kk]
theorem l19_ok {M : MH} {w v : List Nat} {a0 a3 a4 a5 : Option D} (hM : Cl M) (hd : 0 < d) (hw : Wd w) (hv : Wd v) : ∃ k1 k2, R.e ⟨d, none⟩ l19 [a0, some (.str w), some (.str v), a3, a4, a5] M = .ok (.tl [.str k1, .str k2]) M := by
  obtain ⟨k1, h1⟩ := k19_ok (M := M) (d := d) (w := w) (a0 := a0) (a1 := some (.str w)) (a2 := some (.str v)) (a3 := a3) (a4 := a4) hM hd hw
  obtain ⟨k2, h2⟩ := k19_ok (M := M) (d := d) (w := v) (a0 := a0) (a1 := some (.str w)) (a2 := some (.str v)) (a3 := a3) (a4 := a4) hM hd hv
  have lc : lcL R ⟨d, none⟩ (.one 5) [.str w, .str v] none none k19 [a0, some (.str w), some (.str v), a3, a4, none] [.str w, .str v] [] M = .ok [.str k1, .str k2] M := by
    unfold lcL
    rw [if_pos (show stays M [.str w, .str v] none = true from rfl)]
    simp -implicitDefEqProofs [h1, lim]
    unfold lcL
    rw [if_pos (show stays M [.str w, .str v] none = true from rfl)]
    simp -implicitDefEqProofs [h2, lim]
    unfold lcL
    rw [if_pos (show stays M [.str w, .str v] none = true from rfl)]
  refine ⟨k1, k2, ?_⟩
  unfold l19
  simp -implicitDefEqProofs [lim, wipeE]
  rw [lc]
  simp
theorem o19_ok {M : MH} {k1 k2 : List Nat} {c : Cf} {a0 a1 a2 a4 a5 : Option D} : ∃ b, R.e c o19 [a0, a1, a2, some (.tl [.str k1, .str k2]), a4, a5] M = .ok (.bl b) M := by
  have hi : cmpD M .In (.str kSIGN) (.tl [.str k1, .str k2]) = some (decide (kSIGN ∈ [k1, k2])) := in_strs (L := [k1, k2]) rfl (fun s h => by cases h)
  unfold o19
  generalize decide (kSIGN ∈ [k1, k2]) = b0 at hi
  generalize kCOL = C at *
  generalize kNUM = Y at *
  generalize kSIGN = S0 at *
  cases b0 with
  | true => exact ⟨true, by simp -implicitDefEqProofs [hi]⟩
  | false =>
    generalize h1 : (k1 == C) = b1
    generalize h2 : (k2 == C) = b2
    generalize h3 : (k1 == Y) = b3
    generalize h4 : (k2 == Y) = b4
    refine ⟨(!(b1 == b2)) || (b3 && !b4), ?_⟩
    simp -implicitDefEqProofs [hi, atI_0, atI_1, h1, h2, h3, h4]
    cases b1 <;> cases b2 <;> cases b3 <;> cases b4 <;> simp
theorem part_ok {w v : List Nat} (hd : 1 < d) (hN : Nr N) (hw : Wd w) (hv : Wd v) : ∃ gs' n' p, p.length ≤ 30 ∧ R.f d 19 [.ref 1, .str w, .str v] (V gs n N) = .ok (.str p) (V gs' n' N) := by
  have hlim : lim = 16777216 := rfl
  obtain ⟨d, rfl⟩ : ∃ e, d = e + 1 := ⟨d - 1, by omega⟩
  have hM : Cl (V gs n N) := V_cl hN
  obtain ⟨k1, k2, q1⟩ := l19_ok (M := V gs n N) (d := d) (a0 := some (.ref 1)) (a3 := none) (a4 := none) (a5 := none) hM (by omega) hw hv
  obtain ⟨b, q2⟩ := o19_ok (M := V gs n N) (k1 := k1) (k2 := k2) (c := ⟨d, none⟩) (a0 := some (.ref 1)) (a1 := some (.str w)) (a2 := some (.str v)) (a4 := none) (a5 := none)
  have fin : ∀ (gs' : List Int) (n' : Int) (w : List Nat), endF true (V gs n N).length (.rt (.str w) (V gs' n' N)) = .ok (.str w) (V gs' n' N) := fun gs' n' w => V_end hN rfl
  have eb : ∃ e, f_19.body = [.set 3 l19, .set 4 o19, .ite (.and (.truth (.var 4)) (.cmp .Eq (.call 14 [.var 0, .con (.int 3)]) (.con (.int 0)))) [.ret (.con (.str []))] [], .ret (.ix (.lst false e) (.call 14 [.var 0, .con (.int 9)]))] ∧ ∀ c ρ M, R.e c (.lst false e) ρ M = .ok (.tl (P9.map .str)) M := by
    refine ⟨_, rfl, ?_⟩
    intro c ρ M
    simp -implicitDefEqProofs [lim, P9]
  obtain ⟨e, eb, v1⟩ := eb
  rw [call_eq (t := f_19) rfl rfl]
  show ∃ (gs' : List Int) (n' : Int) (p : List Nat), p.length ≤ 30 ∧ endF true (V gs n N).length (R.ss ⟨d, none⟩ f_19.body [some (.ref 1), some (.str w), some (.str v), none, none, none] (V gs n N)) = _
  rw [eb]
  -- the last index
  have last : ∀ (gs : List Int) (n : Int), ∃ (gs' : List Int) (n' : Int) (p : List Nat), p.length ≤ 30 ∧ R.e ⟨d, none⟩ (.ix (.lst false e) (.call 14 [.var 0, .con (.int 9)])) [some (.ref 1), some (.str w), some (.str v), some (.tl [.str k1, .str k2]), some (.bl b), none] (V gs n N) = .ok (.str p) (V gs' n' N) := fun gs n => by
    obtain ⟨gs3, n3, t, ht, p2⟩ := tapN (gs := gs) (n := n) (m := 9) (N := N) (d := d) (by omega) (by omega) (by omega) hN
    have p2' : R.f d 14 [.ref 1, .int 9] (V gs n N) = .ok (.int (t : Nat)) (V gs3 n3 N) := p2
    refine ⟨gs3, n3, P9[t]'ht, ?_, ixL (M2 := V gs3 n3 N) (v1 _ _ _) (by simp -implicitDefEqProofs [p2']) ht⟩
    have q : ∀ w ∈ P9, w.length ≤ 30 := by decide
    exact q _ (List.getElem_mem _)
  cases b with
  | false =>
    obtain ⟨gs', n', p, hp, la⟩ := last gs n
    refine ⟨gs', n', p, hp, ?_⟩
    rw [← fin]
    generalize (E.ix (.lst false e) (.call 14 [.var 0, .con (.int 9)])) = X at *
    generalize l19 = L at *
    generalize o19 = O at *
    simp -implicitDefEqProofs [q1, q2, la]
  | true =>
    obtain ⟨gs1, n1, t, ht, p2⟩ := tapN (gs := gs) (n := n) (m := 3) (N := N) (d := d) (by omega) (by omega) (by omega) hN
    have p2' : R.f d 14 [.ref 1, .int 3] (V gs n N) = .ok (.int (t : Nat)) (V gs1 n1 N) := p2
    by_cases t0 : t = 0
    · subst t0
      refine ⟨gs1, n1, [], by simp, ?_⟩
      rw [← fin]
      rw [show ((0 : Nat) : Int) = 0 from rfl] at p2'
      generalize (E.ix (.lst false e) (.call 14 [.var 0, .con (.int 9)])) = X at *
      generalize l19 = L at *
      generalize o19 = O at *
      simp -implicitDefEqProofs [q1, q2, p2']
    · have tb : ((t : Int) == 0) = false := beq_eq_false_iff_ne.mpr (by omega)
      obtain ⟨gs', n', p, hp, la⟩ := last gs1 n1
      refine ⟨gs', n', p, hp, ?_⟩
      rw [← fin]
      generalize (E.ix (.lst false e) (.call 14 [.var 0, .con (.int 9)])) = X at *
      generalize l19 = L at *
      generalize o19 = O at *
      simp -implicitDefEqProofs [q1, q2, p2', tb, la]
def b20 : List S := [.set 4 (.ite (.cmp .Gt (.var 3) (.con (.int 0))) (.call 19 [.var 0, .ix (.var 1) (.bin false .Sub (.var 3) (.con (.int 1))), .ix (.var 1) (.var 3)]) (.con (.str []))), .set 2 (.bin false .Add (.bin false .Add (.var 2) (.ite (.cmp .Eq (.bin false .Mod (.fn false .int [.var 3]) (.con (.int 10))) (.con (.int 9))) (.con (.str [10])) (.var 4))) (.ix (.var 1) (.var 3)))]
theorem joined_ok {wl : List (List Nat)} (hd : 2 < d) (hN : Nr N) (hw : ∀ w ∈ wl, Wd w) (hl : wl.length ≤ 1000) : ∃ gs' n' s, s.length ≤ 100 + 60 * wl.length ∧ R.f d 20 [.ref 1, .tl (wl.map .str)] (V gs n N) = .ok (.str s) (V gs' n' N) := by
  have hlim : lim = 16777216 := rfl
  obtain ⟨d, rfl⟩ : ∃ e, d = e + 1 := ⟨d - 1, by omega⟩
  have fin : ∀ (gs' : List Int) (n' : Int) (w : List Nat), endF true (V gs n N).length (.rt (.str w) (V gs' n' N)) = .ok (.str w) (V gs' n' N) := fun gs' n' w => V_end hN rfl
  have eb : ∃ e1 e2, f_20.body = [.set 2 (.ix (.lst false e1) (.call 14 [.var 0, .con (.int 5)])), .for (.one 3) (.rng1 (.fn false .len [.var 1])) b20, .ret (.bin false .Add (.var 2) (.ix (.lst false e2) (.call 14 [.var 0, .con (.int 7)])))] ∧ (∀ c ρ M, R.e c (.lst false e1) ρ M = .ok (.tl (T5.map .str)) M) ∧ (∀ c ρ M, R.e c (.lst false e2) ρ M = .ok (.tl (T7.map .str)) M) := by
    refine ⟨_, _, rfl, ?_, ?_⟩
    · intro c ρ M; simp -implicitDefEqProofs [lim, T5]
    · intro c ρ M; simp -implicitDefEqProofs [lim, T7]
  obtain ⟨e1, e2, eb, v1, v2⟩ := eb
  obtain ⟨gs1, n1, t, ht, p1⟩ := tapN (gs := gs) (n := n) (m := 5) (N := N) (d := d) (by omega) (by omega) (by omega) hN
  have p1' : R.f d 14 [.ref 1, .int 5] (V gs n N) = .ok (.int (t : Nat)) (V gs1 n1 N) := p1
  have i1 := ixL (M2 := V gs1 n1 N) (c := ⟨d, none⟩) (ρ := [some (.ref 1), some (.tl (wl.map .str)), none, none, none]) (b := .call 14 [.var 0, .con (.int 5)]) (L := T5) (v1 ⟨d, none⟩ _ (V gs n N)) (by simp -implicitDefEqProofs [p1']) (show t < T5.length from ht)
  have hT5 : (T5[t]'ht).length ≤ 30 := by
    have q : ∀ w ∈ T5, w.length ≤ 30 := by decide
    exact q _ (List.getElem_mem _)
  generalize T5[t]'ht = s0 at i1 hT5
  obtain ⟨ρ2, M2, f1, gs2, n2, s, o3, o4, c1, rfl, rfl⟩ := for_nx (P := pg) (c := ⟨d, none⟩) (g := .one 3) (all := rngL 0 wl.length) (b := b20)
    (fun i ρ M' => ∃ gs n s o3 o4, s.length ≤ 30 + 60 * i ∧ M' = V gs n N ∧ ρ = [some (.ref 1), some (.tl (wl.map .str)), some (.str s), o3, o4]) (l := rngL 0 wl.length) (s := 0) (ρ := [some (.ref 1), some (.tl (wl.map .str)), some (.str s0), none, none]) (M := V gs1 n1 N) (by
    rintro i x ρ M' hi ⟨gs, n, s, o3, o4, c1, rfl, rfl⟩
    obtain ⟨hil, rfl⟩ := rngL_get hi
    rw [Nat.zero_add] at c1 ⊢
    have g1 : (wl.map D.str)[i]? = some (.str wl[i]) := by rw [List.getElem?_map, List.getElem?_eq_getElem hil]; rfl
    have wi := hw _ (List.getElem_mem hil)
    have li := wi.l
    have step : ∃ (gs' : List Int) (n' : Int) (p : List Nat), p.length ≤ 30 ∧ R.e ⟨d, none⟩ (.ite (.cmp .Gt (.var 3) (.con (.int 0))) (.call 19 [.var 0, .ix (.var 1) (.bin false .Sub (.var 3) (.con (.int 1))), .ix (.var 1) (.var 3)]) (.con (.str []))) [some (.ref 1), some (.tl (wl.map .str)), some (.str s), some (.int (i : Nat)), o4] (V gs n N) = .ok (.str p) (V gs' n' N) := by
      by_cases i0 : i = 0
      · subst i0
        refine ⟨gs, n, [], by simp, by simp -implicitDefEqProofs⟩
      · obtain ⟨j, rfl⟩ : ∃ j, i = j + 1 := ⟨i - 1, by omega⟩
        have hj : j < wl.length := by omega
        have g0 : (wl.map D.str)[j]? = some (.str wl[j]) := by rw [List.getElem?_map, List.getElem?_eq_getElem hj]; rfl
        obtain ⟨gs', n', p, hp, q⟩ := part_ok (gs := gs) (n := n) (N := N) (d := d) (by omega) hN (hw _ (List.getElem_mem hj)) wi
        refine ⟨gs', n', p, hp, ?_⟩
        have ej : ((j + 1 : Nat) : Int) - 1 = (j : Int) := by omega
        have hp' : (0 : Int) < ((j + 1 : Nat) : Int) := by omega
        generalize hJ : ((j + 1 : Nat) : Int) = J at *
        have aJ : L2.atI (wl.map D.str) J = some (.str wl[j + 1]) := by rw [← hJ, atI_at, g1]
        generalize wl.map D.str = A at *
        simp -implicitDefEqProofs [hp', ej, atI_at, g0, aJ, q]
    obtain ⟨gs', n', p, hp, q⟩ := step
    have md : binD false (V gs' n' N) .Mod (.int (i : Nat)) (.int 10) = .ok (.int ((i : Int).fmod 10)) (V gs' n' N) := mod_int (by decide)
    have ch : ∃ p', p'.length ≤ 30 ∧ R.e ⟨d, none⟩ (.ite (.cmp .Eq (.bin false .Mod (.fn false .int [.var 3]) (.con (.int 10))) (.con (.int 9))) (.con (.str [10])) (.var 4)) [some (.ref 1), some (.tl (wl.map .str)), some (.str s), some (.int (i : Nat)), some (.str p)] (V gs' n' N) = .ok (.str p') (V gs' n' N) := by
      generalize (i : Int).fmod 10 = F at md
      by_cases h9 : F = 9
      · subst h9
        exact ⟨[10], by simp, by simp -implicitDefEqProofs [md]⟩
      · have hb : (F == 9) = false := beq_eq_false_iff_ne.mpr h9
        exact ⟨p, hp, by simp -implicitDefEqProofs [md, hb]⟩
    obtain ⟨p', hp', q'⟩ := ch
    have ad1 : binD false (V gs' n' N) .Add (.str s) (.str p') = .ok (.str (s ++ p')) (V gs' n' N) := add_str (by omega)
    have ad2 : binD false (V gs' n' N) .Add (.str (s ++ p')) (.str wl[i]) = .ok (.str (s ++ p' ++ wl[i])) (V gs' n' N) := add_str (by rw [List.length_append]; omega)
    refine ⟨_, [some (.ref 1), some (.tl (wl.map .str)), some (.str (s ++ p' ++ wl[i])), some (.int (0 + i)), some (.str p)], V gs' n' N, rfl, .inl ?_, gs', n', _, _, _, by rw [List.length_append, List.length_append]; omega, rfl, rfl⟩
    rw [Int.zero_add]
    unfold b20
    generalize s ++ p' ++ wl[i] = S2 at *
    generalize s ++ p' = S1 at *
    generalize (E.ite (.cmp .Gt (.var 3) (.con (.int 0))) (.call 19 [.var 0, .ix (.var 1) (.bin false .Sub (.var 3) (.con (.int 1))), .ix (.var 1) (.var 3)]) (.con (.str []))) = X1 at *
    generalize (E.ite (.cmp .Eq (.bin false .Mod (.fn false .int [.var 3]) (.con (.int 10))) (.con (.int 9))) (.con (.str [10])) (.var 4)) = X2 at *
    generalize wl.map D.str = A at *
    simp -implicitDefEqProofs [q, q', ad1, ad2, atI_at, g1]) ⟨gs1, n1, s0, none, none, by omega, rfl, rfl⟩
  rw [rngL_len, Nat.zero_add] at c1
  obtain ⟨gs3, n3, u, hu, p3⟩ := tapN (gs := gs2) (n := n2) (m := 7) (N := N) (d := d) (by omega) (by omega) (by omega) hN
  have p3' : R.f d 14 [.ref 1, .int 7] (V gs2 n2 N) = .ok (.int (u : Nat)) (V gs3 n3 N) := p3
  have i2 := ixL (M2 := V gs3 n3 N) (c := ⟨d, none⟩) (ρ := [some (.ref 1), some (.tl (wl.map .str)), some (.str s), o3, o4]) (b := .call 14 [.var 0, .con (.int 7)]) (L := T7) (v2 ⟨d, none⟩ _ (V gs2 n2 N)) (by simp -implicitDefEqProofs [p3']) (show u < T7.length from hu)
  have hT7 : (T7[u]'hu).length ≤ 30 := by
    have q : ∀ w ∈ T7, w.length ≤ 30 := by decide
    exact q _ (List.getElem_mem _)
  generalize T7[u]'hu = s7 at i2 hT7
  have ad : binD false (V gs3 n3 N) .Add (.str s) (.str s7) = .ok (.str (s ++ s7)) (V gs3 n3 N) := add_str (by omega)
  refine ⟨gs3, n3, s ++ s7, by rw [List.length_append]; omega, ?_⟩
  rw [call_eq (t := f_20) rfl rfl, ← fin]
  show endF true (V gs n N).length (R.ss ⟨d, none⟩ f_20.body [some (.ref 1), some (.tl (wl.map .str)), none, none, none] (V gs n N)) = _
  rw [eb]
  have rg := rng1_nat (n := wl.length) (by omega)
  have ll : (wl.map D.str).length = wl.length := List.length_map _
  generalize s ++ s7 = S2 at *
  generalize (E.ix (.lst false e1) (.call 14 [.var 0, .con (.int 5)])) = X1 at *
  generalize (E.ix (.lst false e2) (.call 14 [.var 0, .con (.int 7)])) = X2 at *
  generalize b20 = B at *
  generalize wl.map D.str = A at *
  simp -implicitDefEqProofs [i1, ll, rg]
  rw [f1]
  simp -implicitDefEqProofs [i2, ad]
end
end LK

set_option Elab.async false
set_option linter.all false
set_option maxRecDepth 1000000
set_option maxHeartbeats 4000000
namespace LX
theorem cutL_from' {α : Type} {xs : List α} {k : Nat} : cutL xs (some (k : Int)) none = xs.drop k := by
  by_cases h : k ≤ xs.length
  · exact cutL_from h
  · unfold cutL
    have e1 : HT.sIx xs.length 0 (some (k : Int)) = xs.length := by
      show (if (k : Int) < 0 then ((k : Int) + (xs.length : Int)).toNat else min (k : Int).toNat xs.length) = xs.length
      rw [if_neg (by omega), Int.toNat_natCast]
      omega
    have e2 : HT.sIx xs.length xs.length none = xs.length := rfl
    rw [e1, e2, List.drop_of_length_le (Nat.le_refl _), List.drop_of_length_le (by omega), List.take_nil]
end LX
namespace LK
open LX
theorem wr_wd : ∀ w ∈ WR, Wd w := fun w hw => Wd.of (List.all_eq_true.mp (by decide : WR.all wdB = true) w hw)
section
variable {gs : List Int} {n : Int} {N : MH} {d : Nat}
theorem spoilt_ok {wl : List (List Nat)} (hd : 1 < d) (hN : Nr N) (hw : ∀ w ∈ wl, Wd w) (hl : wl.length ≤ 1000) : ∃ (gs' : List Int) (n' : Int) (vl : List (List Nat)), (∀ w ∈ vl, Wd w) ∧ vl.length ≤ wl.length + 2 ∧ R.f d 23 [.ref 1, .tl (wl.map .str)] (V gs n N) = .ok (.tl (vl.map .str)) (V gs' n' N) := by
  have hlim : lim = 16777216 := rfl
  obtain ⟨d, rfl⟩ : ∃ e, d = e + 1 := ⟨d - 1, by omega⟩
  have eb : ∃ e1, f_23.body = [.set 1 (.fn false .list [.var 1]), .for (.one 2) (.rng1 (.bin false .Add (.con (.int 1)) (.call 14 [.var 0, .con (.int 2)]))) [.set 3 (.lst false e1), .set 4 (.call 14 [.var 0, .bin false .Add (.fn false .len [.var 1]) (.con (.int 1))]), .set 1 (.bin false .Add (.bin false .Add (.cut false (.var 1) none (some (.var 4))) (.lst false [.ix (.var 3) (.call 14 [.var 0, .fn false .len [.var 3]])])) (.cut false (.var 1) (some (.bin false .Add (.var 4) (.call 14 [.var 0, .con (.int 2)]))) none))], .ret (.var 1)] ∧ ∀ c ρ M, R.e c (.lst false e1) ρ M = .ok (.tl (WR.map .str)) M := by
    refine ⟨_, rfl, ?_⟩
    intro c ρ M
    have m1 : ∀ M, binD false M .Mult (.str [97]) (.int 9) = .ok (.str [97, 97, 97, 97, 97, 97, 97, 97, 97]) M := fun M => mul_str (k := 9) (by omega) (by show 1 * 9 ≤ 16777216; omega)
    have m2 : ∀ M, binD false M .Mult (.str [81]) (.int 25) = .ok (.str [81, 81, 81, 81, 81, 81, 81, 81, 81, 81, 81, 81, 81, 81, 81, 81, 81, 81, 81, 81, 81, 81, 81, 81, 81]) M := fun M => mul_str (k := 25) (by omega) (by show 1 * 25 ≤ 16777216; omega)
    have m3 : ∀ M, binD false M .Mult (.str [66]) (.int 24) = .ok (.str [66, 66, 66, 66, 66, 66, 66, 66, 66, 66, 66, 66, 66, 66, 66, 66, 66, 66, 66, 66, 66, 66, 66, 66]) M := fun M => mul_str (k := 24) (by omega) (by show 1 * 24 ≤ 16777216; omega)
    have a3 : ∀ M, binD false M .Add (.str [66, 66, 66, 66, 66, 66, 66, 66, 66, 66, 66, 66, 66, 66, 66, 66, 66, 66, 66, 66, 66, 66, 66, 66]) (.str [99]) = .ok (.str [66, 66, 66, 66, 66, 66, 66, 66, 66, 66, 66, 66, 66, 66, 66, 66, 66, 66, 66, 66, 66, 66, 66, 66, 99]) M := fun M => add_str (by decide)
    simp -implicitDefEqProofs [lim, WR, m1, m2, m3, a3]
  obtain ⟨e1, eb, v1⟩ := eb
  obtain ⟨gs1, n1, q, hq, p1⟩ := tapN (gs := gs) (n := n) (m := 2) (N := N) (d := d) (by omega) (by omega) (by omega) hN
  have p1' : R.f d 14 [.ref 1, .int 2] (V gs n N) = .ok (.int (q : Nat)) (V gs1 n1 N) := p1
  generalize hB : ([.set 3 (.lst false e1), .set 4 (.call 14 [.var 0, .bin false .Add (.fn false .len [.var 1]) (.con (.int 1))]), .set 1 (.bin false .Add (.bin false .Add (.cut false (.var 1) none (some (.var 4))) (.lst false [.ix (.var 3) (.call 14 [.var 0, .fn false .len [.var 3]])])) (.cut false (.var 1) (some (.bin false .Add (.var 4) (.call 14 [.var 0, .con (.int 2)]))) none))] : List S) = B at eb
  obtain ⟨ρ2, M2, f1, gs2, n2, vl, o2, o3, o4, c1, c2, rfl, rfl⟩ := for_nx (P := pg) (c := ⟨d, none⟩) (g := .one 2) (all := rngL 0 (1 + q)) (b := B)
    (fun i ρ M' => ∃ (gs : List Int) (n : Int) (vl : List (List Nat)) (o2 o3 o4 : Option D), (∀ w ∈ vl, Wd w) ∧ vl.length ≤ wl.length + i ∧ M' = V gs n N ∧ ρ = [some (.ref 1), some (.tl (vl.map .str)), o2, o3, o4]) (l := rngL 0 (1 + q)) (s := 0) (ρ := [some (.ref 1), some (.tl (wl.map .str)), none, none, none]) (M := V gs1 n1 N) (by
    rintro i x ρ M' hi ⟨gs, n, vl, o2, o3, o4, c1, c2, rfl, rfl⟩
    obtain ⟨hil, rfl⟩ := rngL_get hi
    rw [Nat.zero_add] at c2 ⊢
    obtain ⟨gs1, n1, at', ha, q1⟩ := tapN (gs := gs) (n := n) (m := vl.length + 1) (N := N) (d := d) (by omega) (by omega) (by omega) hN
    rw [show ((vl.length + 1 : Nat) : Int) = (vl.length : Int) + 1 by omega] at q1
    obtain ⟨gs2, n2, t, ht, q2⟩ := tapN (gs := gs1) (n := n1) (m := WR.length) (N := N) (d := d) (by omega) (by decide) (by decide) hN
    obtain ⟨gs3, n3, u, hu, q3⟩ := tapN (gs := gs2) (n := n2) (m := 2) (N := N) (d := d) (by omega) (by omega) (by omega) hN
    have q3' : R.f d 14 [.ref 1, .int 2] (V gs2 n2 N) = .ok (.int (u : Nat)) (V gs3 n3 N) := q3
    have lv : (vl.map D.str).length = vl.length := List.length_map _
    have lW : (WR.map D.str).length = WR.length := List.length_map _
    have gW : (WR.map D.str)[t]? = some (.str WR[t]) := by rw [List.getElem?_map, List.getElem?_eq_getElem ht]; rfl
    have k1 := cutL_to (xs := vl.map D.str) (k := at') (by omega)
    have k2 := cutL_from' (xs := vl.map D.str) (k := at' + u)
    rw [show ((at' + u : Nat) : Int) = (at' : Int) + (u : Int) by omega] at k2
    have z1 := add_tl (m := false) (M := V gs2 n2 N) (xs := (vl.map D.str).take at') (ys := [.str WR[t]]) (by rw [List.length_take, lv, hlim]; simp; omega)
    have z2 := add_tl (m := false) (M := V gs3 n3 N) (xs := (vl.map D.str).take at' ++ [.str WR[t]]) (ys := (vl.map D.str).drop (at' + u)) (by rw [List.length_append, List.length_take, List.length_drop, lv, hlim]; simp; omega)
    have eV : (vl.map D.str).take at' ++ [.str WR[t]] ++ (vl.map D.str).drop (at' + u) = (vl.take at' ++ [WR[t]] ++ vl.drop (at' + u)).map .str := by simp
    rw [eV] at z2
    refine ⟨_, [some (.ref 1), some (.tl ((vl.take at' ++ [WR[t]] ++ vl.drop (at' + u)).map .str)), some (.int (0 + i)), some (.tl (WR.map .str)), some (.int (at' : Nat))], V gs3 n3 N, rfl, .inl ?_, gs3, n3, vl.take at' ++ [WR[t]] ++ vl.drop (at' + u), _, _, _, fun w hw => ?_, ?_, rfl, rfl⟩
    · rw [← hB]
      generalize WR[t] = W at *
      generalize ((vl.take at' ++ [W] ++ vl.drop (at' + u)).map D.str) = Z at *
      generalize WR.map D.str = WS at *
      generalize vl.map D.str = A at *
      generalize E.lst false e1 = E1 at *
      simp -implicitDefEqProofs [v1, lv, q1, lW, q2, q3', k1, k2, z1, z2, atI_at, gW, lim]
    · rcases List.mem_append.mp hw with hw | hw
      · rcases List.mem_append.mp hw with hw | hw
        · exact c1 w (List.mem_of_mem_take hw)
        · rw [List.mem_singleton.mp hw]
          exact wr_wd _ (List.getElem_mem ht)
      · exact c1 w (List.mem_of_mem_drop hw)
    · rw [List.length_append, List.length_append, List.length_take, List.length_drop]
      simp
      omega) ⟨gs1, n1, wl, none, none, none, hw, by omega, rfl, rfl⟩
  rw [rngL_len, Nat.zero_add] at c2
  refine ⟨gs2, n2, vl, c1, by omega, ?_⟩
  have fin : endF true (V gs n N).length (.rt (.tl (vl.map .str)) (V gs2 n2 N)) = .ok (.tl (vl.map .str)) (V gs2 n2 N) := V_end hN (str_und vl)
  rw [call_eq (t := f_23) rfl rfl, ← fin]
  show endF true (V gs n N).length (R.ss ⟨d, none⟩ f_23.body [some (.ref 1), some (.tl (wl.map .str)), none, none, none] (V gs n N)) = _
  rw [eb]
  have rg : rng1D (.int (1 + (q : Int))) = some (rngL 0 (1 + q)) := by
    rw [show (1 : Int) + (q : Int) = ((1 + q : Nat) : Int) by omega]
    exact rng1_nat (by omega)
  generalize wl.map D.str = A at *
  generalize vl.map D.str = A2 at *
  simp -implicitDefEqProofs [p1', rg]
  rw [f1]
  simp
/-- some words -/
theorem words_drawn {k ts : Nat} {c : Cf} {ρ : LX.Env} {slot : Nat} (hc : 1 < c.d) (hN : Nr N) (h0 : ∀ v, (ρ.set slot v)[ts]? = some (some (.ref 1))) (hk : k ≤ 1000) :
    ∃ (gs' : List Int) (n' : Int) (wl : List (List Nat)), (∀ w ∈ wl, Wd w) ∧ wl.length = k ∧ lcL R c (.one slot) (rngL 0 k) none none (.call 18 [.var ts]) ρ (rngL 0 k) [] (V gs n N) = .ok (wl.map .str) (V gs' n' N) := by
  have hlim : lim = 16777216 := rfl
  obtain ⟨r, M', e1, gs', n', wl, c1, c2, rfl, rfl⟩ := lc_nx (P := pg) (c := c) (g := .one slot) (all := rngL 0 k) (e := .call 18 [.var ts]) (ρ := ρ)
    (fun i acc M' => ∃ (gs : List Int) (n : Int) (wl : List (List Nat)), (∀ w ∈ wl, Wd w) ∧ wl.length = i ∧ acc = wl.map .str ∧ M' = V gs n N) (l := rngL 0 k) (acc := []) (s := 0) (M := V gs n N) (by
    rintro i x acc M' hi ⟨gs, n, wl, c1, c2, rfl, rfl⟩
    obtain ⟨gs', n', w, hw, p⟩ := word_ok (gs := gs) (n := n) (N := N) (d := c.d) hc hN
    refine ⟨_, .str w, V gs' n' N, rfl, by simp -implicitDefEqProofs [h0, p], gs', n', wl ++ [w], fun v hv => ?_, by simp; omega, by simp, rfl⟩
    rcases List.mem_append.mp hv with hv | hv
    · exact c1 v hv
    · rw [List.mem_singleton.mp hv]
      exact hw) ⟨gs, n, [], fun w hw => (by cases hw), rfl, rfl, rfl⟩ (by rw [rngL_len]; simp; omega)
  rw [rngL_len, Nat.zero_add] at c2
  exact ⟨gs', n', wl, c1, c2, e1⟩
end
end LK

set_option Elab.async false
set_option linter.all false
set_option maxRecDepth 1000000
set_option maxHeartbeats 4000000
namespace LK
open LX
theorem smallN {n : Nat} (h : n < 1000000) : smallI (n : Int) = true := by
  have e : smallI (n : Int) = (decide (-(18446744073709551616 : Int) < (n : Int)) && decide ((n : Int) < (18446744073709551616 : Int))) := rfl
  rw [e, decide_eq_true (by omega), decide_eq_true (by omega)]
  rfl
def L2 : List S := [.ite (.not (.truth (.call 22 [.call 20 [.var 1, .call 23 [.var 1, .var 3]], .lst false [.var 4, .call 20 [.var 1, .call 23 [.var 1, .var 3]]]]))) [.ret (.con (.bl false))] []]
def w26 : E := .lc false [8] (.one 8) (.rng1 (.bin false .Mult (.call 14 [.var 1, .con (.int 14)]) (.bin false .Add (.con (.int 1)) (.call 14 [.var 1, .con (.int 3)])))) none (.call 18 [.var 1])
def o26 : E := .lst false [.call 20 [.var 1, .var 3], .call 20 [.var 1, .bin false .Add (.bin false .Add (.cut false (.var 3) none (some (.var 5))) (.lst false [.call 18 [.var 1]])) (.cut false (.var 3) (some (.bin false .Add (.var 5) (.con (.int 1)))) none)], .call 20 [.var 1, .cut false (.var 3) (some (.con (.int 1))) none]]
def L1 : List S := [.set 3 w26, .set 4 (.call 20 [.var 1, .var 3]), .set 5 (.call 14 [.var 1, .bin false .Add (.fn false .len [.var 3]) (.con (.int 1))]), .set 6 o26, .ite (.not (.truth (.call 22 [.var 4, .var 6]))) [.ret (.con (.bl false))] [], .for (.one 7) (.rng1 (.con (.int 2))) L2, .ite (.not (.truth (.call 22 [.var 4, .lst false [.call 20 [.var 1, .call 23 [.var 1, .var 3]]]]))) [.ret (.con (.bl false))] []]
abbrev T20 (l : List (List Nat)) : D := .tl (l.map .str)
section
variable {gs : List Int} {n : Int} {d : Nat}
theorem w26_ok {a0 a2 a3 a4 a5 a6 a7 : Option D} (hd : 10 < d) : ∃ (gs' : List Int) (n' : Int) (wl : List (List Nat)), (∀ w ∈ wl, Wd w) ∧ wl.length ≤ 39 ∧ R.e ⟨d, none⟩ w26 [a0, some (.ref 1), a2, a3, a4, a5, a6, a7, none, none] (V gs n []) = .ok (T20 wl) (V gs' n' []) := by
  have hlim : lim = 16777216 := rfl
  obtain ⟨gs1, n1, a, ha, p1⟩ := tapN (gs := gs) (n := n) (m := 14) (N := []) (d := d) (by omega) (by omega) (by omega) Nr.nil
  obtain ⟨gs2, n2, b, hb, p2⟩ := tapN (gs := gs1) (n := n1) (m := 3) (N := []) (d := d) (by omega) (by omega) (by omega) Nr.nil
  have p1' : R.f d 14 [.ref 1, .int 14] (V gs n []) = .ok (.int (a : Nat)) (V gs1 n1 []) := p1
  have p2' : R.f d 14 [.ref 1, .int 3] (V gs1 n1 []) = .ok (.int (b : Nat)) (V gs2 n2 []) := p2
  have hk : a * (1 + b) ≤ 13 * 3 := Nat.mul_le_mul (by omega) (by omega)
  have mu : binD false (V gs2 n2 []) .Mult (.int (a : Nat)) (.int (1 + (b : Int))) = .ok (.int ((a * (1 + b) : Nat) : Int)) (V gs2 n2 []) := by
    rw [LX.mul_l (smallN (by omega))]
    congr 2
  generalize a * (1 + b) = k at hk mu
  obtain ⟨gs3, n3, wl, h1, h2, h3⟩ := words_drawn (gs := gs2) (n := n2) (N := []) (k := k) (ts := 1) (c := ⟨d, none⟩) (ρ := [a0, some (.ref 1), a2, a3, a4, a5, a6, a7, none, none]) (slot := 8) (by show 1 < d; omega) Nr.nil (fun v => rfl) (by omega)
  have rg := rng1_nat (n := k) (by omega)
  refine ⟨gs3, n3, wl, h1, by omega, ?_⟩
  unfold w26
  simp -implicitDefEqProofs [p1', p2', mu, rg, wipeE]
  rw [h3]
  simp
/-- a spoilt text -/
theorem sp_ok {wl : List (List Nat)} (hd : 10 < d) (hw : ∀ w ∈ wl, Wd w) (hl : wl.length ≤ 60) : ∃ (gs1 gs2 : List Int) (n1 n2 : Int) (vl : List (List Nat)) (s : List Nat), s.length ≤ 1000000 ∧ R.f d 23 [.ref 1, T20 wl] (V gs n []) = .ok (T20 vl) (V gs1 n1 []) ∧ R.f d 20 [.ref 1, T20 vl] (V gs1 n1 []) = .ok (.str s) (V gs2 n2 []) := by
  obtain ⟨gs1, n1, vl, h1, h2, h3⟩ := spoilt_ok (gs := gs) (n := n) (N := []) (d := d) (by omega) Nr.nil hw (by omega)
  obtain ⟨gs2, n2, s, h4, h5⟩ := joined_ok (gs := gs1) (n := n1) (N := []) (d := d) (by omega) Nr.nil h1 (by omega)
  exact ⟨gs1, gs2, n1, n2, vl, s, by omega, h3, h5⟩
theorem L2_ok {wl : List (List Nat)} {s : List Nat} {a0 a2 a5 a6 b7 : Option D} (hd : 10 < d) (hw : ∀ w ∈ wl, Wd w) (hl : wl.length ≤ 60) (hs : s.length ≤ 1000000) : ∃ (gs' : List Int) (n' : Int) (a7 : Option D), forL R ⟨d, none⟩ (.one 7) (rngL 0 2) none L2 (rngL 0 2) [a0, some (.ref 1), a2, some (T20 wl), some (.str s), a5, a6, b7, none, none] (V gs n []) = .nx [a0, some (.ref 1), a2, some (T20 wl), some (.str s), a5, a6, a7, none, none] (V gs' n' []) := by
  have hlim : lim = 16777216 := rfl
  obtain ⟨ρ2, M2, e1, gs', n', a7, rfl, rfl⟩ := for_nx (P := pg) (c := ⟨d, none⟩) (g := .one 7) (all := rngL 0 2) (b := L2)
    (fun i ρ M' => ∃ (gs : List Int) (n : Int) (a7 : Option D), M' = V gs n [] ∧ ρ = [a0, some (.ref 1), a2, some (T20 wl), some (.str s), a5, a6, a7, none, none]) (l := rngL 0 2) (s := 0) (ρ := [a0, some (.ref 1), a2, some (T20 wl), some (.str s), a5, a6, b7, none, none]) (M := V gs n []) (by
    rintro i x ρ M' hi ⟨gs, n, a7, rfl, rfl⟩
    obtain ⟨gs1, gs2, n1, n2, vl, s1, z1, h1, h2⟩ := sp_ok (gs := gs) (n := n) (d := d) hd hw hl
    obtain ⟨gs3, gs4, n3, n4, vl2, s2, z2, h3, h4⟩ := sp_ok (gs := gs2) (n := n2) (d := d) hd hw hl
    have q : R.f d 22 [.str s1, .tl [.str s, .str s2]] (V gs4 n4 []) = .ok (.bl true) (V gs4 n4 []) := asked_ok (vs := [s, s2]) (V_cl Nr.nil) (by omega) z1 (fun u hu => by
      simp only [List.mem_cons, List.mem_nil_iff, or_false] at hu
      rcases hu with rfl | rfl
      · exact hs
      · exact z2)
    refine ⟨_, [a0, some (.ref 1), a2, some (T20 wl), some (.str s), a5, a6, some x, none, none], V gs4 n4 [], rfl, .inl ?_, gs4, n4, _, rfl, rfl⟩
    simp only [T20] at h1 h2 h3 h4 ⊢
    generalize wl.map D.str = A at *
    generalize vl.map D.str = A1 at *
    generalize vl2.map D.str = A2 at *
    simp -implicitDefEqProofs [L2, h1, h2, h3, h4, q, lim]) ⟨gs, n, b7, rfl, rfl⟩
  exact ⟨gs', n', a7, e1⟩
theorem lap_ok {a0 a2 a3 a4 a5 a6 a7 : Option D} (hd : 10 < d) : ∃ (gs' : List Int) (n' : Int) (a3' a4' a5' a6' a7' : Option D), R.ss ⟨d, none⟩ L1 [a0, some (.ref 1), a2, a3, a4, a5, a6, a7, none, none] (V gs n []) = .nx [a0, some (.ref 1), a2, a3', a4', a5', a6', a7', none, none] (V gs' n' []) := by
  have hlim : lim = 16777216 := rfl
  obtain ⟨gs1, n1, wl, w1, w2, q1⟩ := w26_ok (gs := gs) (n := n) (d := d) (a0 := a0) (a2 := a2) (a3 := a3) (a4 := a4) (a5 := a5) (a6 := a6) (a7 := a7) hd
  obtain ⟨gs2, n2, s, z2, q2⟩ := joined_ok (gs := gs1) (n := n1) (N := []) (d := d) (by omega) Nr.nil w1 (by omega)
  obtain ⟨gs3, n3, at', ha, q3⟩ := tapN (gs := gs2) (n := n2) (m := wl.length + 1) (N := []) (d := d) (by omega) (by omega) (by omega) Nr.nil
  rw [show ((wl.length + 1 : Nat) : Int) = (wl.length : Int) + 1 by omega] at q3
  obtain ⟨gs4, n4, s4, z4, q4⟩ := joined_ok (gs := gs3) (n := n3) (N := []) (d := d) (by omega) Nr.nil w1 (by omega)
  obtain ⟨gs5, n5, w, hw, q5⟩ := word_ok (gs := gs4) (n := n4) (N := []) (d := d) (by omega) Nr.nil
  obtain ⟨gs6, n6, s6, z6, q6⟩ := joined_ok (gs := gs5) (n := n5) (N := []) (d := d) (wl := wl.take at' ++ [w] ++ wl.drop (at' + 1)) (by omega) Nr.nil (fun v hv => by
    rcases List.mem_append.mp hv with hv | hv
    · rcases List.mem_append.mp hv with hv | hv
      · exact w1 v (List.mem_of_mem_take hv)
      · rw [List.mem_singleton.mp hv]
        exact hw
    · exact w1 v (List.mem_of_mem_drop hv)) (by rw [List.length_append, List.length_append, List.length_take, List.length_drop]; simp; omega)
  have z6' : s6.length ≤ 1000000 := by
    have : (wl.take at' ++ [w] ++ wl.drop (at' + 1)).length ≤ 80 := by rw [List.length_append, List.length_append, List.length_take, List.length_drop]; simp; omega
    omega
  obtain ⟨gs7, n7, s7, z7, q7⟩ := joined_ok (gs := gs6) (n := n6) (N := []) (d := d) (wl := wl.drop 1) (by omega) Nr.nil (fun v hv => w1 v (List.mem_of_mem_drop hv)) (by rw [List.length_drop]; omega)
  have z7' : s7.length ≤ 1000000 := by rw [List.length_drop] at z7; omega
  have q8 : R.f d 22 [.str s, .tl [.str s4, .str s6, .str s7]] (V gs7 n7 []) = .ok (.bl true) (V gs7 n7 []) := asked_ok (vs := [s4, s6, s7]) (V_cl Nr.nil) (by omega) (by omega) (fun u hu => by
    simp only [List.mem_cons, List.mem_nil_iff, or_false] at hu
    rcases hu with rfl | rfl | rfl
    · omega
    · exact z6'
    · exact z7')
  obtain ⟨gs8, n8, a7', q9⟩ := L2_ok (gs := gs7) (n := n7) (d := d) (wl := wl) (s := s) (a0 := a0) (a2 := a2) (a5 := some (.int (at' : Nat))) (a6 := some (.tl [.str s4, .str s6, .str s7])) (b7 := a7) hd w1 (by omega) (by omega)
  obtain ⟨gs9, gsA, n9, nA, vl, sA, zA, qA, qB⟩ := sp_ok (gs := gs8) (n := n8) (d := d) hd w1 (by omega)
  have qC : R.f d 22 [.str s, .tl [.str sA]] (V gsA nA []) = .ok (.bl true) (V gsA nA []) := asked_ok (vs := [sA]) (V_cl Nr.nil) (by omega) (by omega) (fun u hu => by
    rw [List.mem_singleton.mp hu]
    exact zA)
  have k1 := cutL_to (xs := wl.map D.str) (k := at') (by simp; omega)
  have k2 := cutL_from' (xs := wl.map D.str) (k := at' + 1)
  rw [show ((at' + 1 : Nat) : Int) = (at' : Int) + 1 by omega] at k2
  have k3 := cutL_from' (xs := wl.map D.str) (k := 1)
  rw [show ((1 : Nat) : Int) = 1 from rfl] at k3
  have y1 := add_tl (m := false) (M := V gs5 n5 []) (xs := (wl.map D.str).take at') (ys := [.str w]) (by rw [List.length_take]; simp; omega)
  have y2 := add_tl (m := false) (M := V gs5 n5 []) (xs := (wl.map D.str).take at' ++ [.str w]) (ys := (wl.map D.str).drop (at' + 1)) (by rw [List.length_append, List.length_take, List.length_drop]; simp; omega)
  have e1 : (wl.map D.str).take at' ++ [.str w] ++ (wl.map D.str).drop (at' + 1) = (wl.take at' ++ [w] ++ wl.drop (at' + 1)).map .str := by simp
  have e2 : (wl.map D.str).drop 1 = (wl.drop 1).map .str := by simp
  rw [e1] at y2
  rw [e2] at k3
  have lw : (wl.map D.str).length = wl.length := List.length_map _
  have o6 : R.e ⟨d, none⟩ o26 [a0, some (.ref 1), a2, some (T20 wl), some (.str s), some (.int (at' : Nat)), a6, a7, none, none] (V gs3 n3 []) = .ok (.tl [.str s4, .str s6, .str s7]) (V gs7 n7 []) := by
    simp only [T20] at *
    generalize (wl.take at' ++ [w] ++ wl.drop (at' + 1)).map D.str = A1 at *
    generalize (wl.drop 1).map D.str = A2 at *
    generalize wl.map D.str = A at *
    simp -implicitDefEqProofs [o26, q4, q5, q6, q7, k1, k2, k3, y1, y2, lim]
  refine ⟨gsA, nA, some (T20 wl), some (.str s), some (.int (at' : Nat)), some (.tl [.str s4, .str s6, .str s7]), a7', ?_⟩
  have r2 : rng1D (.int 2) = some (rngL 0 2) := rng1_nat (n := 2) (by decide)
  simp only [T20] at *
  generalize wl.map D.str = A at *
  generalize vl.map D.str = A2 at *
  unfold L1
  generalize w26 = W at *
  generalize o26 = O at *
  generalize L2 = L at *
  simp -implicitDefEqProofs [q1, q2, q3, lw, o6, q8, r2]
  rw [q9]
  simp -implicitDefEqProofs [qA, qB, qC, lim]
end
end LK

set_option Elab.async false
set_option linter.all false
set_option maxRecDepth 1000000
set_option maxHeartbeats 4000000
namespace LK
open LX
/-! ### the wide text, the law -/
theorem join1 {M : MH} {c : Nat} {l : List (List Nat)} {x : D} (h : seqOf M x = some (l.map .str)) (hz : (l.map List.length).sum + l.length ≤ 16777216) : methD M .join (.str [c]) [x] = .ok (.str (joinS [c] l)) M := by
  have e : methD M .join (.str [c]) [x] = (ofO ((seqOf M x).bind strsL) M).bind fun l M => if (l.map List.length).sum + l.length * 1 ≤ 16777216 then .ok (.str (joinS [c] l)) M else .stuck := rfl
  rw [e, h]
  show (ofO (strsL (l.map .str)) M).bind _ = _
  rw [strs_of]
  show (if _ then _ else _) = _
  rw [if_pos (by omega)]
theorem join_len1 {c : Nat} : ∀ l : List (List Nat), (joinS [c] l).length ≤ (l.map List.length).sum + l.length
  | [] => Nat.zero_le _
  | [p] => by simp [joinS]
  | p :: q :: r => by
    have ih := join_len1 (c := c) (q :: r)
    show (p ++ ([c] ++ joinS [c] (q :: r))).length ≤ _
    rw [List.length_append, List.length_append, List.length_singleton]
    simp only [List.map_cons, List.sum_cons, List.length_cons] at ih ⊢
    omega
theorem sum_le {k : Nat} : ∀ {l : List (List Nat)}, (∀ w ∈ l, w.length ≤ k) → (l.map List.length).sum ≤ k * l.length
  | [], _ => Nat.zero_le _
  | w :: l, h => by
    have a := h w List.mem_cons_self
    have b := sum_le fun v hv => h v (List.mem_cons_of_mem _ hv)
    rw [List.map_cons, List.sum_cons, List.length_cons, Nat.mul_add]
    omega
def ri : E := .ix (.var 3) (.bin false .Mod (.fn false .int [.bin false .Add (.bin false .Mult (.var 9) (.con (.int 7))) (.var 8)]) (.con (.int 50)))
def rl : E := .meth .join (.con (.str [32])) [.lc false [8] (.one 8) (.rng1 (.con (.int 12))) none ri]
abbrev sA : List Nat := [97, 32, 98, 32, 99, 32, 100, 32, 101, 32, 102, 32, 103]
def tx : E := .meth .join (.con (.str [10])) [.bin false .Add (.lc false [9] (.one 9) (.rng1 (.con (.int 166))) none rl) (.lst false [.con (.str sA)])]
section
variable {M : MH} {c : Cf}
theorem rl_ok {wl : List (List Nat)} {r : Nat} {a0 a1 a2 a4 a5 a6 a7 a8 : Option D} (hw : ∀ w ∈ wl, Wd w) (hl : wl.length = 50) (hr : r < 1000) : ∃ s : List Nat, s.length ≤ 400 ∧ R.e c rl [a0, a1, a2, some (T20 wl), a4, a5, a6, a7, a8, some (.int (r : Nat))] M = .ok (.str s) M := by
  have hlim : lim = 16777216 := rfl
  obtain ⟨rs, M', e1, l, c1, c2, rfl, rfl⟩ := lc_nx (P := pg) (c := c) (g := .one 8) (all := rngL 0 12) (e := ri) (ρ := [a0, a1, a2, some (T20 wl), a4, a5, a6, a7, none, some (.int (r : Nat))])
    (fun i acc M' => ∃ l : List (List Nat), (∀ w ∈ l, w.length ≤ 30) ∧ l.length = i ∧ acc = l.map .str ∧ M' = M) (l := rngL 0 12) (acc := []) (s := 0) (M := M) (by
    rintro i x acc M' hi ⟨l, c1, c2, rfl, rfl⟩
    obtain ⟨hil, rfl⟩ := rngL_get hi
    have h1 := Int.fmod_nonneg_of_pos ((r : Int) * 7 + (i : Int)) (b := 50) (by decide)
    have h2 := Int.fmod_lt_of_pos ((r : Int) * 7 + (i : Int)) (b := 50) (by decide)
    have mu : ∀ M, binD false M .Mult (.int (r : Nat)) (.int 7) = .ok (.int ((r : Int) * 7)) M := fun M => mul_r rfl
    have md : ∀ x M, binD false M .Mod (.int x) (.int 50) = .ok (.int (x.fmod 50)) M := fun x M => mod_int (by decide)
    obtain ⟨k, hk, ek⟩ : ∃ k : Nat, k < 50 ∧ ((r : Int) * 7 + (i : Int)).fmod 50 = k := ⟨(((r : Int) * 7 + (i : Int)).fmod 50).toNat, by omega, by omega⟩
    have hk' : k < wl.length := by omega
    have g : (wl.map D.str)[k]? = some (.str wl[k]) := by rw [List.getElem?_map, List.getElem?_eq_getElem hk']; rfl
    rw [Int.zero_add]
    refine ⟨_, .str wl[k], M', rfl, ?_, l ++ [wl[k]], fun w hw' => ?_, by simp; omega, by simp, rfl⟩
    · unfold ri
      simp only [T20]
      generalize wl.map D.str = A at *
      simp -implicitDefEqProofs [mu, md, ek, atI_at, g]
    · rcases List.mem_append.mp hw' with hw' | hw'
      · exact c1 w hw'
      · rw [List.mem_singleton.mp hw']
        exact (hw _ (List.getElem_mem hk')).l) ⟨[], fun w h => (by cases h), rfl, rfl, rfl⟩ (by rw [rngL_len]; simp; omega)
  rw [rngL_len, Nat.zero_add] at c2
  have sl := sum_le c1
  have jo := join1 (M := M') (c := 32) (l := l) (x := .tl (l.map .str)) rfl (by omega)
  have jl := join_len1 (c := 32) l
  refine ⟨joinS [32] l, by omega, ?_⟩
  have rg : rng1D (.int 12) = some (rngL 0 12) := rng1_nat (n := 12) (by decide)
  unfold rl
  simp only [T20] at *
  generalize joinS [32] l = J at *
  generalize l.map D.str = L at *
  generalize wl.map D.str = A at *
  generalize ri = I at *
  simp -implicitDefEqProofs [rg, wipeE]
  rw [e1]
  simp -implicitDefEqProofs [jo]
theorem tx_ok {wl : List (List Nat)} {a0 a1 a2 a4 a5 a6 a7 a8 : Option D} (hw : ∀ w ∈ wl, Wd w) (hl : wl.length = 50) : ∃ s : List Nat, s.length ≤ 100000 ∧ R.e c tx [a0, a1, a2, some (T20 wl), a4, a5, a6, a7, a8, none] M = .ok (.str s) M := by
  have hlim : lim = 16777216 := rfl
  obtain ⟨rs, M', e1, l, c1, c2, rfl, rfl⟩ := lc_nx (P := pg) (c := c) (g := .one 9) (all := rngL 0 166) (e := rl) (ρ := [a0, a1, a2, some (T20 wl), a4, a5, a6, a7, a8, none])
    (fun i acc M' => ∃ l : List (List Nat), (∀ w ∈ l, w.length ≤ 400) ∧ l.length = i ∧ acc = l.map .str ∧ M' = M) (l := rngL 0 166) (acc := []) (s := 0) (M := M) (by
    rintro i x acc M' hi ⟨l, c1, c2, rfl, rfl⟩
    obtain ⟨hil, rfl⟩ := rngL_get hi
    obtain ⟨s, hs, q⟩ := rl_ok (M := M') (c := c) (r := i) (a0 := a0) (a1 := a1) (a2 := a2) (a4 := a4) (a5 := a5) (a6 := a6) (a7 := a7) (a8 := a8) hw hl (by omega)
    rw [Int.zero_add]
    refine ⟨[a0, a1, a2, some (T20 wl), a4, a5, a6, a7, a8, some (.int (i : Nat))], .str s, M', rfl, q, l ++ [s], fun w hw' => ?_, by simp; omega, by simp, rfl⟩
    rcases List.mem_append.mp hw' with hw' | hw'
    · exact c1 w hw'
    · rw [List.mem_singleton.mp hw']
      exact hs) ⟨[], fun w h => (by cases h), rfl, rfl, rfl⟩ (by rw [rngL_len]; simp; omega)
  rw [rngL_len, Nat.zero_add] at c2
  have ca : ∀ w ∈ l ++ [sA], w.length ≤ 400 := fun w hw' => by
    rcases List.mem_append.mp hw' with hw' | hw'
    · exact c1 w hw'
    · rw [List.mem_singleton.mp hw']
      decide
  have sl := sum_le ca
  have ll : (l ++ [sA]).length = 167 := by simp [c2]
  have jo := join1 (M := M') (c := 10) (l := l ++ [sA]) (x := .tl ((l ++ [sA]).map .str)) rfl (by omega)
  have jl := join_len1 (c := 10) (l ++ [sA])
  have ad : binD false M' .Add (.tl (l.map .str)) (.tl [.str sA]) = .ok (.tl ((l ++ [sA]).map .str)) M' := by
    rw [List.map_append]
    exact add_tl (by rw [List.length_map]; show l.length + 1 ≤ lim; omega)
  refine ⟨joinS [10] (l ++ [sA]), by omega, ?_⟩
  have rg : rng1D (.int 166) = some (rngL 0 166) := rng1_nat (n := 166) (by decide)
  unfold tx
  simp only [T20] at *
  generalize joinS [10] (l ++ [sA]) = J at *
  generalize (l ++ [sA]).map D.str = L2 at *
  generalize l.map D.str = L at *
  generalize wl.map D.str = A at *
  generalize rl = I at *
  generalize sA = S0 at *
  simp -implicitDefEqProofs [rg, wipeE]
  rw [e1]
  simp -implicitDefEqProofs [jo, ad, lim]
end
abbrev sc (ns : List Int) : Option D := some (.fl (ns.map .int))
theorem law_plain : ∀ ns : List Int, ns.length ≤ 63 → ∃ M, (LX.run LK.pg).f 20 26 [.fl (ns.map .int)] [] = .ok (.bl true) M := by
  intro ns hn
  have hlim : lim = 16777216 := rfl
  obtain ⟨gs, n, p⟩ := vat_ok ns hn 18
  have p' : R.f 19 13 [.fl (ns.map .int)] [] = .ok (.ref 1) (V gs n []) := p
  have h1 := hand_ok (M := V gs n []) (d := 19) (V_cl Nr.nil) (by omega)
  obtain ⟨gs1, n1, h2⟩ := names_ok (gs := gs) (n := n) (N := []) (d := 19) (by omega) Nr.nil
  obtain ⟨ρ2, M2, f1, gs2, n2, o2, o3, o4, o5, o6, o7, rfl, rfl⟩ := for_nx (P := pg) (c := ⟨19, none⟩) (g := .one 2) (all := rngL 0 3) (b := L1)
    (fun i ρ M' => ∃ (gs : List Int) (n : Int) (o2 o3 o4 o5 o6 o7 : Option D), M' = V gs n [] ∧ ρ = [sc ns, some (.ref 1), o2, o3, o4, o5, o6, o7, none, none]) (l := rngL 0 3) (s := 0) (ρ := [sc ns, some (.ref 1), none, none, none, none, none, none, none, none]) (M := V gs1 n1 []) (by
    rintro i x ρ M' hi ⟨gs, n, o2, o3, o4, o5, o6, o7, rfl, rfl⟩
    obtain ⟨gs', n', a3, a4, a5, a6, a7, q⟩ := lap_ok (gs := gs) (n := n) (d := 19) (a0 := sc ns) (a2 := some x) (a3 := o3) (a4 := o4) (a5 := o5) (a6 := o6) (a7 := o7) (by omega)
    exact ⟨_, _, V gs' n' [], rfl, .inl q, gs', n', _, _, _, _, _, _, rfl, rfl⟩) ⟨gs1, n1, none, none, none, none, none, none, rfl, rfl⟩
  obtain ⟨gs3, n3, t, ht, p3⟩ := tapN (gs := gs2) (n := n2) (m := 13) (N := []) (d := 19) (by omega) (by omega) (by omega) Nr.nil
  have p3' : R.f 19 14 [.ref 1, .int 13] (V gs2 n2 []) = .ok (.int (t : Nat)) (V gs3 n3 []) := p3
  obtain ⟨gs4, n4, wl, w1, w2, p4⟩ := words_drawn (gs := gs3) (n := n3) (N := []) (k := 50) (ts := 1) (c := ⟨19, none⟩) (ρ := [sc ns, some (.ref 1), o2, o3, o4, o5, o6, o7, none, none]) (slot := 8) (by show 1 < 19; omega) Nr.nil (fun v => rfl) (by omega)
  obtain ⟨s, hs, p5⟩ := tx_ok (M := V gs4 n4 []) (c := ⟨19, none⟩) (wl := wl) (a0 := sc ns) (a1 := some (.ref 1)) (a2 := o2) (a4 := o4) (a5 := o5) (a6 := o6) (a7 := o7) (a8 := none) w1 w2
  have ad1 : binD false (V gs4 n4 []) .Add (.str s) (.str [10, 35]) = .ok (.str (s ++ [10, 35])) (V gs4 n4 []) := add_str (by show s.length + 2 ≤ lim; omega)
  have ad2 : binD false (V gs4 n4 []) .Add (.str s) (.str [32]) = .ok (.str (s ++ [32])) (V gs4 n4 []) := add_str (by show s.length + 1 ≤ lim; omega)
  have ad3 : binD false (V gs4 n4 []) .Add (.str s) (.str [33]) = .ok (.str (s ++ [33])) (V gs4 n4 []) := add_str (by show s.length + 1 ≤ lim; omega)
  have cu : cutL [32, 59] none (some 1) = [32] := cutL_to (xs := [32, 59]) (k := 1) (by simp)
  have q1 : R.f 19 22 [.str s, .tl [.str (s ++ [10, 35]), .str (s ++ [32])]] (V gs4 n4 []) = .ok (.bl true) (V gs4 n4 []) := asked_ok (vs := [s ++ [10, 35], s ++ [32]]) (V_cl Nr.nil) (by omega) (by omega) (fun u hu => by
    simp only [List.mem_cons, List.mem_nil_iff, or_false] at hu
    rcases hu with rfl | rfl <;> simp <;> omega)
  have q2 : R.f 19 22 [.str (s ++ [33]), .tl []] (V gs4 n4 []) = .ok (.bl true) (V gs4 n4 []) := asked_ok (vs := []) (V_cl Nr.nil) (by omega) (by simp; omega) (fun u hu => by cases hu)
  have r3 : rng1D (.int 3) = some (rngL 0 3) := rng1_nat (n := 3) (by decide)
  have r50 : rng1D (.int 50) = some (rngL 0 50) := rng1_nat (n := 50) (by decide)
  have eb : f_26.body = [.set 1 (.call 13 [.var 0]), .ite (.or (.not (.truth (.call0 25))) (.not (.truth (.call 24 [.var 1])))) [.ret (.con (.bl false))] [], .for (.one 2) (.rng1 (.con (.int 3))) L1, .ite (.cmp .NotEq (.call 14 [.var 1, .con (.int 13)]) (.con (.int 9))) [.ret (.con (.bl true))] [], .set 3 (.lc false [8] (.one 8) (.rng1 (.con (.int 50))) none (.call 18 [.var 1])), .set 4 tx, .ret (.and (.call 22 [.var 4, .lst false [.bin false .Add (.var 4) (.con (.str [10, 35])), .bin false .Add (.var 4) (.cut false (.con (.str [32, 59])) none (some (.con (.int 1))))]]) (.call 22 [.bin false .Add (.var 4) (.con (.str [33])), .lst false []]))] := rfl
  rw [call_eq (d := 19) (t := f_26) rfl rfl]
  show ∃ M, endF true 0 (R.ss ⟨19, none⟩ f_26.body [some (.fl (ns.map .int)), none, none, none, none, none, none, none, none, none] []) = .ok (.bl true) M
  rw [eb]
  simp only [T20] at *
  generalize wl.map D.str = A at *
  generalize s ++ [10, 35] = S1 at *
  generalize s ++ [32] = S2 at *
  generalize s ++ [33] = S3 at *
  generalize L1 = B1 at *
  generalize tx = X at *
  simp -implicitDefEqProofs [p', h1, h2, r3]
  rw [f1]
  simp -implicitDefEqProofs [p3']
  by_cases h9 : (t : Int) = 9
  · simp -implicitDefEqProofs [h9, r50, wipeE]
    rw [p4]
    simp -implicitDefEqProofs [p5, ad1, ad2, ad3, cu, q1, q2, lim]
    exact ⟨[], endF_vC (M := []) rfl (by simp) rfl⟩
  · have nb : ((t : Int) == 9) = false := beq_eq_false_iff_ne.mpr h9
    simp -implicitDefEqProofs [nb]
    exact ⟨[], endF_vC (M := []) rfl (by simp) rfl⟩
end LK

namespace LK
open PySem L2 LX PyProof.Rows
theorem all_mk (hplain : ∀ ns : List Int, ns.length ≤ 63 → ∃ M, (run pg).f 20 26 [.fl (ns.map .int)] [] = .ok (.bl true) M) {l : PySem.W.OpenLaw} {w : World} {K : PySem.W.Frag} {h : Heap} {mg : Str → Option Value} {fa : Addr} (X : K.In h) (G : h.Ns mainGlobals mg) (hfa : mg "law" = some (.ref fa))
    {g_0 g_1 g_2 g_3 g_4 g_5 g_6 g_7 g_8 g_9 g_10 g_11 g_12 g_13 g_14 g_15 g_16 g_17 g_18 g_19 g_20 g_21 g_22 g_23 g_24 g_25 g_26 x_0 x_1 x_2 x_3 x_4 x_5 x_6 y_0 : Addr} {od_0 an_0 od_1 an_1 od_2 an_2 od_3 an_3 od_4 an_4 od_5 an_5 od_6 an_6 od_7 an_7 od_8 an_8 od_9 an_9 od_10 an_10 od_11 an_11 od_12 an_12 od_13 an_13 od_14 an_14 od_15 an_15 od_16 an_16 od_17 an_17 od_18 an_18 od_19 an_19 od_20 an_20 od_21 an_21 od_22 an_22 od_23 an_23 od_24 an_24 od_25 an_25 od_26 an_26 od_i0 an_i0 : Option Addr} {sl_0 sl_1 sl_2 sl_3 sl_4 sl_5 sl_6 sl_7 sl_8 sl_9 sl_10 sl_11 sl_12 sl_13 sl_14 sl_15 sl_16 sl_17 sl_18 sl_19 sl_20 sl_21 sl_22 sl_23 sl_24 sl_25 sl_26 sl_i0 : Array (Option Value)} {oc_0 kV_0 dc_0 pm_0 cd_0 ct_0 oc_1 kV_1 dc_1 pm_1 cd_1 ct_1 oc_2 kV_2 dc_2 pm_2 cd_2 ct_2 oc_3 kV_3 dc_3 pm_3 cd_3 ct_3 oc_4 kV_4 dc_4 pm_4 cd_4 ct_4 oc_5 kV_5 dc_5 pm_5 cd_5 ct_5 oc_6 kV_6 dc_6 pm_6 cd_6 ct_6 oc_7 kV_7 dc_7 pm_7 cd_7 ct_7 oc_8 kV_8 dc_8 pm_8 cd_8 ct_8 oc_9 kV_9 dc_9 pm_9 cd_9 ct_9 oc_10 kV_10 dc_10 pm_10 cd_10 ct_10 oc_11 kV_11 dc_11 pm_11 cd_11 ct_11 oc_12 kV_12 dc_12 pm_12 cd_12 ct_12 oc_13 kV_13 dc_13 pm_13 cd_13 ct_13 oc_14 kV_14 dc_14 pm_14 cd_14 ct_14 oc_15 kV_15 dc_15 pm_15 cd_15 ct_15 oc_16 kV_16 dc_16 pm_16 cd_16 ct_16 oc_17 kV_17 dc_17 pm_17 cd_17 ct_17 oc_18 kV_18 dc_18 pm_18 cd_18 ct_18 oc_19 kV_19 dc_19 pm_19 cd_19 ct_19 oc_20 kV_20 dc_20 pm_20 cd_20 ct_20 oc_21 kV_21 dc_21 pm_21 cd_21 ct_21 oc_22 kV_22 dc_22 pm_22 cd_22 ct_22 oc_23 kV_23 dc_23 pm_23 cd_23 ct_23 oc_24 kV_24 dc_24 pm_24 cd_24 ct_24 oc_25 kV_25 dc_25 pm_25 cd_25 ct_25 oc_26 kV_26 dc_26 pm_26 cd_26 ct_26 oc_i0 kV_i0 dc_i0 pm_i0 cd_i0 ct_i0 : Value} {nm_0 qu_0 : Str} {N_0 : Addr} {bs_0 : List Value} {sn_0 : List Str} {sb_0 : List Value} {ab_0 : Bool} {co_0 : Option Bool} {dd_0 : Option Addr} {m0_0 m1_0 m2_0 m3_0 m5_0 : Option Value} {t_0 : Tok} {t_1 : Tok} {t_2 : Tok} {t_3 : Tok} {t_4 : Tok} {t_5 : Tok} {t_6 : Tok} {t_8 : Tok} {t_9 : Tok} {t_10 : Tok} {t_11 : Tok} {t_12 : Tok} {t_13 : Tok} {t_14 : Tok} {t_15 : Tok} {t_16 : Tok} {t_17 : Tok} {t_18 : Tok} {t_19 : Tok} {tpa_7 : Addr} {tpd_7 : Option Addr} {tpn_7 : Nat} {tps_7 : Array (Option Value)}
    (a_0 : PySem.W.nsIn K mainGlobals "only_signs" = some (some (.ref g_0)))
    (l_0 : K.lookup g_0 = some ⟨oc_0, od_0, .func (PySem.W.fnOf "only_signs" "only_signs" (defArgs s_0) (defBody s_0) (defScope s_0) .none kV_0 dc_0 pm_0 an_0 cd_0 ct_0), sl_0⟩)
    (c_0 : PySem.W.codeIn K cd_0 "only_signs" = true)
    (k_0 : PySem.W.keepIn K (.ref g_0) = true)
    (a_1 : PySem.W.nsIn K mainGlobals "written_number" = some (some (.ref g_1)))
    (l_1 : K.lookup g_1 = some ⟨oc_1, od_1, .func (PySem.W.fnOf "written_number" "written_number" (defArgs s_1) (defBody s_1) (defScope s_1) .none kV_1 dc_1 pm_1 an_1 cd_1 ct_1), sl_1⟩)
    (c_1 : PySem.W.codeIn K cd_1 "written_number" = true)
    (k_1 : PySem.W.keepIn K (.ref g_1) = true)
    (a_2 : PySem.W.nsIn K mainGlobals "is_kept" = some (some (.ref g_2)))
    (l_2 : K.lookup g_2 = some ⟨oc_2, od_2, .func (PySem.W.fnOf "is_kept" "is_kept" (defArgs s_2) (defBody s_2) (defScope s_2) .none kV_2 dc_2 pm_2 an_2 cd_2 ct_2), sl_2⟩)
    (c_2 : PySem.W.codeIn K cd_2 "is_kept" = true)
    (k_2 : PySem.W.keepIn K (.ref g_2) = true)
    (a_3 : PySem.W.nsIn K mainGlobals "is_name" = some (some (.ref g_3)))
    (l_3 : K.lookup g_3 = some ⟨oc_3, od_3, .func (PySem.W.fnOf "is_name" "is_name" (defArgs s_3) (defBody s_3) (defScope s_3) .none kV_3 dc_3 pm_3 an_3 cd_3 ct_3), sl_3⟩)
    (c_3 : PySem.W.codeIn K cd_3 "is_name" = true)
    (k_3 : PySem.W.keepIn K (.ref g_3) = true)
    (a_4 : PySem.W.nsIn K mainGlobals "signs_of_row" = some (some (.ref g_4)))
    (l_4 : K.lookup g_4 = some ⟨oc_4, od_4, .func (PySem.W.fnOf "signs_of_row" "signs_of_row" (defArgs s_4) (defBody s_4) (defScope s_4) .none kV_4 dc_4 pm_4 an_4 cd_4 ct_4), sl_4⟩)
    (c_4 : PySem.W.codeIn K cd_4 "signs_of_row" = true)
    (k_4 : PySem.W.keepIn K (.ref g_4) = true)
    (a_5 : PySem.W.nsIn K mainGlobals "row_end" = some (some (.ref g_5)))
    (l_5 : K.lookup g_5 = some ⟨oc_5, od_5, .func (PySem.W.fnOf "row_end" "row_end" (defArgs s_5) (defBody s_5) (defScope s_5) .none kV_5 dc_5 pm_5 an_5 cd_5 ct_5), sl_5⟩)
    (c_5 : PySem.W.codeIn K cd_5 "row_end" = true)
    (k_5 : PySem.W.keepIn K (.ref g_5) = true)
    (a_6 : PySem.W.nsIn K mainGlobals "kind_of_row" = some (some (.ref g_6)))
    (l_6 : K.lookup g_6 = some ⟨oc_6, od_6, .func (PySem.W.fnOf "kind_of_row" "kind_of_row" (defArgs s_6) (defBody s_6) (defScope s_6) .none kV_6 dc_6 pm_6 an_6 cd_6 ct_6), sl_6⟩)
    (c_6 : PySem.W.codeIn K cd_6 "kind_of_row" = true)
    (k_6 : PySem.W.keepIn K (.ref g_6) = true)
    (a_7 : PySem.W.nsIn K mainGlobals "comment_end" = some (some (.ref g_7)))
    (l_7 : K.lookup g_7 = some ⟨oc_7, od_7, .func (PySem.W.fnOf "comment_end" "comment_end" (defArgs s_7) (defBody s_7) (defScope s_7) .none kV_7 dc_7 pm_7 an_7 cd_7 ct_7), sl_7⟩)
    (c_7 : PySem.W.codeIn K cd_7 "comment_end" = true)
    (k_7 : PySem.W.keepIn K (.ref g_7) = true)
    (a_8 : PySem.W.nsIn K mainGlobals "words_of" = some (some (.ref g_8)))
    (l_8 : K.lookup g_8 = some ⟨oc_8, od_8, .func (PySem.W.fnOf "words_of" "words_of" (defArgs s_8) (defBody s_8) (defScope s_8) .none kV_8 dc_8 pm_8 an_8 cd_8 ct_8), sl_8⟩)
    (c_8 : PySem.W.codeIn K cd_8 "words_of" = true)
    (k_8 : PySem.W.keepIn K (.ref g_8) = true)
    (a_9 : PySem.W.nsIn K mainGlobals "word_kinds" = some (some (.ref g_9)))
    (l_9 : K.lookup g_9 = some ⟨oc_9, od_9, .func (PySem.W.fnOf "word_kinds" "word_kinds" (defArgs s_9) (defBody s_9) (defScope s_9) .none kV_9 dc_9 pm_9 an_9 cd_9 ct_9), sl_9⟩)
    (c_9 : PySem.W.codeIn K cd_9 "word_kinds" = true)
    (k_9 : PySem.W.keepIn K (.ref g_9) = true)
    (a_10 : PySem.W.nsIn K mainGlobals "bare_words" = some (some (.ref g_10)))
    (l_10 : K.lookup g_10 = some ⟨oc_10, od_10, .func (PySem.W.fnOf "bare_words" "bare_words" (defArgs s_10) (defBody s_10) (defScope s_10) .none kV_10 dc_10 pm_10 an_10 cd_10 ct_10), sl_10⟩)
    (c_10 : PySem.W.codeIn K cd_10 "bare_words" = true)
    (k_10 : PySem.W.keepIn K (.ref g_10) = true)
    (a_11 : PySem.W.nsIn K mainGlobals "plain_text" = some (some (.ref g_11)))
    (l_11 : K.lookup g_11 = some ⟨oc_11, od_11, .func (PySem.W.fnOf "plain_text" "plain_text" (defArgs s_11) (defBody s_11) (defScope s_11) .none kV_11 dc_11 pm_11 an_11 cd_11 ct_11), sl_11⟩)
    (c_11 : PySem.W.codeIn K cd_11 "plain_text" = true)
    (k_11 : PySem.W.keepIn K (.ref g_11) = true)
    (a_12 : PySem.W.nsIn K mainGlobals "has_same_words" = some (some (.ref g_12)))
    (l_12 : K.lookup g_12 = some ⟨oc_12, od_12, .func (PySem.W.fnOf "has_same_words" "has_same_words" (defArgs s_12) (defBody s_12) (defScope s_12) .none kV_12 dc_12 pm_12 an_12 cd_12 ct_12), sl_12⟩)
    (c_12 : PySem.W.codeIn K cd_12 "has_same_words" = true)
    (k_12 : PySem.W.keepIn K (.ref g_12) = true)
    (a_13 : PySem.W.nsIn K mainGlobals "_law_vat" = some (some (.ref g_13)))
    (l_13 : K.lookup g_13 = some ⟨oc_13, od_13, .func (PySem.W.fnOf "_law_vat" "_law_vat" (defArgs s_13) (defBody s_13) (defScope s_13) .none kV_13 dc_13 pm_13 an_13 cd_13 ct_13), sl_13⟩)
    (c_13 : PySem.W.codeIn K cd_13 "_law_vat" = true)
    (k_13 : PySem.W.keepIn K (.ref g_13) = true)
    (a_14 : PySem.W.nsIn K mainGlobals "_law_tap" = some (some (.ref g_14)))
    (l_14 : K.lookup g_14 = some ⟨oc_14, od_14, .func (PySem.W.fnOf "_law_tap" "_law_tap" (defArgs s_14) (defBody s_14) (defScope s_14) .none kV_14 dc_14 pm_14 an_14 cd_14 ct_14), sl_14⟩)
    (c_14 : PySem.W.codeIn K cd_14 "_law_tap" = true)
    (k_14 : PySem.W.keepIn K (.ref g_14) = true)
    (a_15 : PySem.W.nsIn K mainGlobals "_law_same" = some (some (.ref g_15)))
    (l_15 : K.lookup g_15 = some ⟨oc_15, od_15, .func (PySem.W.fnOf "_law_same" "_law_same" (defArgs s_15) (defBody s_15) (defScope s_15) .none kV_15 dc_15 pm_15 an_15 cd_15 ct_15), sl_15⟩)
    (c_15 : PySem.W.codeIn K cd_15 "_law_same" = true)
    (k_15 : PySem.W.keepIn K (.ref g_15) = true)
    (a_16 : PySem.W.nsIn K mainGlobals "_law_kind" = some (some (.ref g_16)))
    (l_16 : K.lookup g_16 = some ⟨oc_16, od_16, .func (PySem.W.fnOf "_law_kind" "_law_kind" (defArgs s_16) (defBody s_16) (defScope s_16) .none kV_16 dc_16 pm_16 an_16 cd_16 ct_16), sl_16⟩)
    (c_16 : PySem.W.codeIn K cd_16 "_law_kind" = true)
    (k_16 : PySem.W.keepIn K (.ref g_16) = true)
    (a_17 : PySem.W.nsIn K mainGlobals "_law_words" = some (some (.ref g_17)))
    (l_17 : K.lookup g_17 = some ⟨oc_17, od_17, .func (PySem.W.fnOf "_law_words" "_law_words" (defArgs s_17) (defBody s_17) (defScope s_17) .none kV_17 dc_17 pm_17 an_17 cd_17 ct_17), sl_17⟩)
    (c_17 : PySem.W.codeIn K cd_17 "_law_words" = true)
    (k_17 : PySem.W.keepIn K (.ref g_17) = true)
    (a_18 : PySem.W.nsIn K mainGlobals "_law_word" = some (some (.ref g_18)))
    (l_18 : K.lookup g_18 = some ⟨oc_18, od_18, .func (PySem.W.fnOf "_law_word" "_law_word" (defArgs s_18) (defBody s_18) (defScope s_18) .none kV_18 dc_18 pm_18 an_18 cd_18 ct_18), sl_18⟩)
    (c_18 : PySem.W.codeIn K cd_18 "_law_word" = true)
    (k_18 : PySem.W.keepIn K (.ref g_18) = true)
    (a_19 : PySem.W.nsIn K mainGlobals "_law_parting" = some (some (.ref g_19)))
    (l_19 : K.lookup g_19 = some ⟨oc_19, od_19, .func (PySem.W.fnOf "_law_parting" "_law_parting" (defArgs s_19) (defBody s_19) (defScope s_19) .none kV_19 dc_19 pm_19 an_19 cd_19 ct_19), sl_19⟩)
    (c_19 : PySem.W.codeIn K cd_19 "_law_parting" = true)
    (k_19 : PySem.W.keepIn K (.ref g_19) = true)
    (a_20 : PySem.W.nsIn K mainGlobals "_law_joined" = some (some (.ref g_20)))
    (l_20 : K.lookup g_20 = some ⟨oc_20, od_20, .func (PySem.W.fnOf "_law_joined" "_law_joined" (defArgs s_20) (defBody s_20) (defScope s_20) .none kV_20 dc_20 pm_20 an_20 cd_20 ct_20), sl_20⟩)
    (c_20 : PySem.W.codeIn K cd_20 "_law_joined" = true)
    (k_20 : PySem.W.keepIn K (.ref g_20) = true)
    (a_21 : PySem.W.nsIn K mainGlobals "_law_heard" = some (some (.ref g_21)))
    (l_21 : K.lookup g_21 = some ⟨oc_21, od_21, .func (PySem.W.fnOf "_law_heard" "_law_heard" (defArgs s_21) (defBody s_21) (defScope s_21) .none kV_21 dc_21 pm_21 an_21 cd_21 ct_21), sl_21⟩)
    (c_21 : PySem.W.codeIn K cd_21 "_law_heard" = true)
    (k_21 : PySem.W.keepIn K (.ref g_21) = true)
    (a_22 : PySem.W.nsIn K mainGlobals "_law_asked" = some (some (.ref g_22)))
    (l_22 : K.lookup g_22 = some ⟨oc_22, od_22, .func (PySem.W.fnOf "_law_asked" "_law_asked" (defArgs s_22) (defBody s_22) (defScope s_22) .none kV_22 dc_22 pm_22 an_22 cd_22 ct_22), sl_22⟩)
    (c_22 : PySem.W.codeIn K cd_22 "_law_asked" = true)
    (k_22 : PySem.W.keepIn K (.ref g_22) = true)
    (a_23 : PySem.W.nsIn K mainGlobals "_law_spoilt" = some (some (.ref g_23)))
    (l_23 : K.lookup g_23 = some ⟨oc_23, od_23, .func (PySem.W.fnOf "_law_spoilt" "_law_spoilt" (defArgs s_23) (defBody s_23) (defScope s_23) .none kV_23 dc_23 pm_23 an_23 cd_23 ct_23), sl_23⟩)
    (c_23 : PySem.W.codeIn K cd_23 "_law_spoilt" = true)
    (k_23 : PySem.W.keepIn K (.ref g_23) = true)
    (a_24 : PySem.W.nsIn K mainGlobals "_law_names" = some (some (.ref g_24)))
    (l_24 : K.lookup g_24 = some ⟨oc_24, od_24, .func (PySem.W.fnOf "_law_names" "_law_names" (defArgs s_24) (defBody s_24) (defScope s_24) .none kV_24 dc_24 pm_24 an_24 cd_24 ct_24), sl_24⟩)
    (c_24 : PySem.W.codeIn K cd_24 "_law_names" = true)
    (k_24 : PySem.W.keepIn K (.ref g_24) = true)
    (a_25 : PySem.W.nsIn K mainGlobals "_law_by_hand" = some (some (.ref g_25)))
    (l_25 : K.lookup g_25 = some ⟨oc_25, od_25, .func (PySem.W.fnOf "_law_by_hand" "_law_by_hand" (defArgs s_25) (defBody s_25) (defScope s_25) .none kV_25 dc_25 pm_25 an_25 cd_25 ct_25), sl_25⟩)
    (c_25 : PySem.W.codeIn K cd_25 "_law_by_hand" = true)
    (k_25 : PySem.W.keepIn K (.ref g_25) = true)
    (a_26 : PySem.W.nsIn K mainGlobals "law" = some (some (.ref g_26)))
    (l_26 : K.lookup g_26 = some ⟨oc_26, od_26, .func (PySem.W.fnOf "law" "law" (defArgs s_26) (defBody s_26) (defScope s_26) .none kV_26 dc_26 pm_26 an_26 cd_26 ct_26), sl_26⟩)
    (c_26 : PySem.W.codeIn K cd_26 "law" = true)
    (k_26 : PySem.W.keepIn K (.ref g_26) = true)
    (xa_0 : PySem.W.nsIn K mainGlobals "BadText" = some (some (.ref x_0)))
    (xi_0 : PySem.W.isClsIn K x_0 = true)
    (xt_0 : PySem.W.typeIn K (.ref x_0) = some (.type "type"))
    (xb_0 : PySem.W.subIn K (.ref x_0) (.type "BaseException") = some true)
    (xa_1 : PySem.W.nsIn K mainGlobals "LoomError" = some (some (.ref x_1)))
    (xi_1 : PySem.W.isClsIn K x_1 = true)
    (xt_1 : PySem.W.typeIn K (.ref x_1) = some (.type "type"))
    (xb_1 : PySem.W.subIn K (.ref x_1) (.type "BaseException") = some true)
    (xa_2 : PySem.W.nsIn K mainGlobals "DataError" = some (some (.ref x_2)))
    (xi_2 : PySem.W.isClsIn K x_2 = true)
    (xt_2 : PySem.W.typeIn K (.ref x_2) = some (.type "type"))
    (xb_2 : PySem.W.subIn K (.ref x_2) (.type "BaseException") = some true)
    (xa_3 : PySem.W.nsIn K mainGlobals "CallError" = some (some (.ref x_3)))
    (xi_3 : PySem.W.isClsIn K x_3 = true)
    (xt_3 : PySem.W.typeIn K (.ref x_3) = some (.type "type"))
    (xb_3 : PySem.W.subIn K (.ref x_3) (.type "BaseException") = some true)
    (xa_4 : PySem.W.nsIn K mainGlobals "RunError" = some (some (.ref x_4)))
    (xi_4 : PySem.W.isClsIn K x_4 = true)
    (xt_4 : PySem.W.typeIn K (.ref x_4) = some (.type "type"))
    (xb_4 : PySem.W.subIn K (.ref x_4) (.type "BaseException") = some true)
    (xa_5 : PySem.W.nsIn K mainGlobals "TextError" = some (some (.ref x_5)))
    (xi_5 : PySem.W.isClsIn K x_5 = true)
    (xt_5 : PySem.W.typeIn K (.ref x_5) = some (.type "type"))
    (xb_5 : PySem.W.subIn K (.ref x_5) (.type "BaseException") = some true)
    (xa_6 : PySem.W.nsIn K mainGlobals "ShopError" = some (some (.ref x_6)))
    (xi_6 : PySem.W.isClsIn K x_6 = true)
    (xt_6 : PySem.W.typeIn K (.ref x_6) = some (.type "type"))
    (xb_6 : PySem.W.subIn K (.ref x_6) (.type "BaseException") = some true)
    (sp : PySem.W.specialIn K (.builtin "object.__class__") "__get__" = some (some (.builtin "getset_descriptor.__get__")))
    (tk : PySem.W.takesIn K (.builtin "object.__class__") = some true)
    (u_0_0 : PySem.W.subIn K (.ref x_0) (.ref x_0) = some true)
    (u_0_1 : PySem.W.subIn K (.ref x_0) (.ref x_1) = some true)
    (u_0_2 : PySem.W.subIn K (.ref x_0) (.ref x_2) = some false)
    (u_0_3 : PySem.W.subIn K (.ref x_0) (.ref x_3) = some false)
    (u_0_4 : PySem.W.subIn K (.ref x_0) (.ref x_4) = some false)
    (u_0_5 : PySem.W.subIn K (.ref x_0) (.ref x_5) = some true)
    (u_0_6 : PySem.W.subIn K (.ref x_0) (.ref x_6) = some false)
    (xl_0 : K.lookup x_0 = some (excClassObj nm_0 qu_0 x_0 N_0 bs_0 [.ref x_5, .ref x_1, .type "ValueError", .type "Exception", .type "BaseException", .type "object"] true sn_0 sb_0 ab_0 co_0 dd_0 m0_0 m1_0 m2_0 m3_0 m5_0 "ValueError.__new__"))
    (sa_0 : PySem.W.findIn K (.ref x_0) "__setattr__" = some (some (.builtin "object.__setattr__")))
    (ga_0 : PySem.W.findIn K (.ref x_0) "__getattribute__" = some (some (.builtin "BaseException.__getattribute__")))
    (gg_0 : PySem.W.findIn K (.ref x_0) "__getattr__" = some none)
    (cc_0 : PySem.W.findIn K (.ref x_0) "__class__" = some (some (.builtin "object.__class__")))
    (mr_0 : PySem.W.mroIn K x_0 (.type "object") = some true)
    (hd_0 : PySem.W.hasDictIn K x_0 = true)
    (kc_0 : PySem.W.keepIn K (.ref x_0) = true)
    (nf_0_line : PySem.W.findIn K (.ref x_0) "line" = some none)
    (nf_0_word : PySem.W.findIn K (.ref x_0) "word" = some none)
    (ia_0 : PySem.W.findIn K (.ref x_0) "__init__" = some (some (.ref y_0)))
    (it_0 : PySem.W.typeIn K (.ref y_0) = some (.type "function"))
    (l_i0 : K.lookup y_0 = some ⟨oc_i0, od_i0, .func (PySem.W.fnOf "__init__" "BadText.__init__" (defArgs i_0) (defBody i_0) (defScope i_0) .none kV_i0 dc_i0 pm_i0 an_i0 cd_i0 ct_i0), sl_i0⟩)
    (c_i0 : PySem.W.codeIn K cd_i0 "BadText.__init__" = true)
    (k_i0 : PySem.W.keepIn K (.ref y_0) = true)
    (b_0 : PySem.W.nsIn K mainGlobals "abs" = some none)
    (b_1 : PySem.W.nsIn K mainGlobals "bool" = some none)
    (b_2 : PySem.W.nsIn K mainGlobals "int" = some none)
    (b_3 : PySem.W.nsIn K mainGlobals "isinstance" = some none)
    (b_4 : PySem.W.nsIn K mainGlobals "len" = some none)
    (b_5 : PySem.W.nsIn K mainGlobals "list" = some none)
    (b_6 : PySem.W.nsIn K mainGlobals "min" = some none)
    (b_7 : PySem.W.nsIn K mainGlobals "range" = some none)
    (b_8 : PySem.W.nsIn K mainGlobals "str" = some none)
    (b_9 : PySem.W.nsIn K mainGlobals "tuple" = some none)
    (q_0 : PySem.W.nsIn K mainGlobals "MOST_TABLETS" = some (some (.int 24 t_0)))
    (q_1 : PySem.W.nsIn K mainGlobals "MOST_NAME" = some (some (.int 8 t_1)))
    (q_2 : PySem.W.nsIn K mainGlobals "MOST_FIGURES" = some (some (.int 6 t_2)))
    (q_3 : PySem.W.nsIn K mainGlobals "FIGURES" = some (some (.str "0123456789" t_3)))
    (q_4 : PySem.W.nsIn K mainGlobals "SMALL" = some (some (.str "abcdefghijklmnopqrstuvwxyz" t_4)))
    (q_5 : PySem.W.nsIn K mainGlobals "COLOURS" = some (some (.str "ABCDEFGHIJKLMNOPQRSTUVWXYZ" t_5)))
    (q_6 : PySem.W.nsIn K mainGlobals "SIGNS" = some (some (.str "(),=+/*^-~<;" t_6)))
    (q_7 : PySem.W.nsIn K mainGlobals "KEPT" = some (some (.ref tpa_7)))
    (qq_7 : K.lookup tpa_7 = some ⟨.type "tuple", tpd_7, .seq #[.str "let" t_8, .str "weave" t_9, .str "mirror" t_10, .str "upside" t_11, .str "swap" t_12, .str "each" t_13, .str "beside" t_14, .str "below" t_15, .str "if" t_16, .str "then" t_17, .str "else" t_18, .str "end" t_19] tpn_7, tps_7⟩)
    : ∃ fd : FuncData, (∀ (s : Shared) (v : Value), BindsTo s fd ⟨[v], []⟩ [("script", v)]) ∧ ∀ base : Heap, K.In base → base.Ns mainGlobals mg → FnOk l.prog w K mg base (L2.CX l.prog w) 22 fa fd ["script"] (spLaw 63 K) := by
  have e := hfa.symm.trans (PySem.W.mg_of X G a_26)
  cases e
  have O_0 : OexC K x_0 := ⟨⟨nm_0, qu_0, N_0, bs_0, _, sn_0, sb_0, ab_0, co_0, dd_0, m0_0, m1_0, m2_0, m3_0, m5_0, xl_0, by rfl⟩, sa_0, xb_0, xt_0, kc_0⟩
  have XF_0 : XfC K x_0 := ⟨ga_0, gg_0, xb_0, hd_0⟩
  have FI_0 := fun_mk (st := i_0) l_i0 c_i0 k_i0
  have IN_0 : XIni K x_0 ["line", "word"] := ⟨O_0, XF_0, fun f hf => AllI.mem (P := fun f => PySem.W.findIn K (.ref x_0) f = some none) (l := ["line", "word"]) ⟨nf_0_line, nf_0_word, trivial⟩ hf, by decide, by decide, _, _, i_0, _, ["self", "line", "word"], ia_0, it_0, FI_0, fsc_by isc_0, rfl, ixc_0, FI_0.binds (ps := ["self", "line", "word"]) fun _ _ _ _ _ _ us hl => match us, hl with | [_, _, _], _ => rfl⟩
  have tab : Tab w K mg pg tb (fun k => ([x_0, x_1, x_2, x_3, x_4, x_5, x_6] : List Addr).getD k 0) (fun f => ([g_0, g_1, g_2, g_3, g_4, g_5, g_6, g_7, g_8, g_9, g_10, g_11, g_12, g_13, g_14, g_15, g_16, g_17, g_18, g_19, g_20, g_21, g_22, g_23, g_24, g_25, fa] : List Addr).getD f 0) := tab_mk X G ⟨⟨a_0, k_0⟩, ⟨a_1, k_1⟩, ⟨a_2, k_2⟩, ⟨a_3, k_3⟩, ⟨a_4, k_4⟩, ⟨a_5, k_5⟩, ⟨a_6, k_6⟩, ⟨a_7, k_7⟩, ⟨a_8, k_8⟩, ⟨a_9, k_9⟩, ⟨a_10, k_10⟩, ⟨a_11, k_11⟩, ⟨a_12, k_12⟩, ⟨a_13, k_13⟩, ⟨a_14, k_14⟩, ⟨a_15, k_15⟩, ⟨a_16, k_16⟩, ⟨a_17, k_17⟩, ⟨a_18, k_18⟩, ⟨a_19, k_19⟩, ⟨a_20, k_20⟩, ⟨a_21, k_21⟩, ⟨a_22, k_22⟩, ⟨a_23, k_23⟩, ⟨a_24, k_24⟩, ⟨a_25, k_25⟩, ⟨a_26, k_26⟩, trivial⟩ (by decide)
    ⟨xa_0, xa_1, xa_2, xa_3, xa_4, xa_5, xa_6, trivial⟩ (by decide) ⟨b_0, b_1, b_2, b_3, b_4, b_5, b_6, b_7, b_8, b_9, trivial⟩ ⟨⟨_, q_0, con_int⟩, ⟨_, q_1, con_int⟩, ⟨_, q_2, con_int⟩, ⟨_, q_3, (con_str (by decide +kernel) (by decide +kernel))⟩, ⟨_, q_4, (con_str (by decide +kernel) (by decide +kernel))⟩, ⟨_, q_5, (con_str (by decide +kernel) (by decide +kernel))⟩, ⟨_, q_6, (con_str (by decide +kernel) (by decide +kernel))⟩, ⟨_, q_7, (con_tup qq_7 (by show 12 ≤ sizeLine; decide) (con_cons (con_str (by decide +kernel) (by decide +kernel)) (con_cons (con_str (by decide +kernel) (by decide +kernel)) (con_cons (con_str (by decide +kernel) (by decide +kernel)) (con_cons (con_str (by decide +kernel) (by decide +kernel)) (con_cons (con_str (by decide +kernel) (by decide +kernel)) (con_cons (con_str (by decide +kernel) (by decide +kernel)) (con_cons (con_str (by decide +kernel) (by decide +kernel)) (con_cons (con_str (by decide +kernel) (by decide +kernel)) (con_cons (con_str (by decide +kernel) (by decide +kernel)) (con_cons (con_str (by decide +kernel) (by decide +kernel)) (con_cons (con_str (by decide +kernel) (by decide +kernel)) (con_cons (con_str (by decide +kernel) (by decide +kernel)) con_nil)))))))))))))⟩, trivial⟩
    ⟨⟨xi_0, xt_0, xb_0⟩, ⟨xi_1, xt_1, xb_1⟩, ⟨xi_2, xt_2, xb_2⟩, ⟨xi_3, xt_3, xb_3⟩, ⟨xi_4, xt_4, xb_4⟩, ⟨xi_5, xt_5, xb_5⟩, ⟨xi_6, xt_6, xb_6⟩, trivial⟩ ⟨⟨⟨u_0_0, u_0_1, u_0_2, u_0_3, u_0_4, u_0_5, u_0_6, trivial⟩, by decide, ⟨xi_0, ga_0, gg_0, xb_0, cc_0, sp, tk, mr_0⟩, XF_0, ⟨nf_0_line, nf_0_word, trivial⟩⟩, trivial⟩ (by decide) ⟨⟨_, rfl, IN_0, by decide⟩, trivial⟩ trivial trivial
  have F_0 := fun_mk (st := s_0) l_0 c_0 k_0
  have J_0 : FnJ K tb (fun f => ([g_0, g_1, g_2, g_3, g_4, g_5, g_6, g_7, g_8, g_9, g_10, g_11, g_12, g_13, g_14, g_15, g_16, g_17, g_18, g_19, g_20, g_21, g_22, g_23, g_24, g_25, fa] : List Addr).getD f 0) 0 f_0 _ ["word", "signs"] := ⟨_, _, s_0, n_0, F_0, fsc_by scp_0, F_0.binds (ps := ["word", "signs"]) (fun _ _ _ _ _ _ us hl => match us, hl with | [_, _], _ => rfl), rfl, rfl, by decide, ⟨fun e => absurd e (by decide), fun e => absurd e (by decide), fun e => absurd e (by decide), fun e => absurd e (by decide), fun e => absurd e (by decide), fun e => absurd e (by decide), trivial⟩, 200, chk_0⟩
  have F_1 := fun_mk (st := s_1) l_1 c_1 k_1
  have J_1 : FnJ K tb (fun f => ([g_0, g_1, g_2, g_3, g_4, g_5, g_6, g_7, g_8, g_9, g_10, g_11, g_12, g_13, g_14, g_15, g_16, g_17, g_18, g_19, g_20, g_21, g_22, g_23, g_24, g_25, fa] : List Addr).getD f 0) 1 f_1 _ ["word"] := ⟨_, _, s_1, n_1, F_1, fsc_by scp_1, F_1.binds (ps := ["word"]) (fun _ _ _ _ _ _ us hl => match us, hl with | [_], _ => rfl), rfl, rfl, by decide, ⟨fun e => absurd e (by decide), fun e => absurd e (by decide), fun e => absurd e (by decide), fun e => absurd e (by decide), fun e => absurd e (by decide), fun e => absurd e (by decide), trivial⟩, 200, chk_1⟩
  have F_2 := fun_mk (st := s_2) l_2 c_2 k_2
  have J_2 : FnJ K tb (fun f => ([g_0, g_1, g_2, g_3, g_4, g_5, g_6, g_7, g_8, g_9, g_10, g_11, g_12, g_13, g_14, g_15, g_16, g_17, g_18, g_19, g_20, g_21, g_22, g_23, g_24, g_25, fa] : List Addr).getD f 0) 2 f_2 _ ["thing"] := ⟨_, _, s_2, n_2, F_2, fsc_by scp_2, F_2.binds (ps := ["thing"]) (fun _ _ _ _ _ _ us hl => match us, hl with | [_], _ => rfl), rfl, rfl, by decide, ⟨fun e => absurd e (by decide), fun _ => kb_mk (by decide) fun s ws hl => match ws, hl with | [_], _ => .of_eq rfl, fun e => absurd e (by decide), fun e => absurd e (by decide), fun e => absurd e (by decide), fun e => absurd e (by decide), trivial⟩, 200, chk_2⟩
  have F_3 := fun_mk (st := s_3) l_3 c_3 k_3
  have J_3 : FnJ K tb (fun f => ([g_0, g_1, g_2, g_3, g_4, g_5, g_6, g_7, g_8, g_9, g_10, g_11, g_12, g_13, g_14, g_15, g_16, g_17, g_18, g_19, g_20, g_21, g_22, g_23, g_24, g_25, fa] : List Addr).getD f 0) 3 f_3 _ ["thing"] := ⟨_, _, s_3, n_3, F_3, fsc_by scp_3, F_3.binds (ps := ["thing"]) (fun _ _ _ _ _ _ us hl => match us, hl with | [_], _ => rfl), rfl, rfl, by decide, ⟨fun _ => kb_mk (by decide) fun s ws hl => match ws, hl with | [_], _ => .of_eq rfl, fun e => absurd e (by decide), fun e => absurd e (by decide), fun e => absurd e (by decide), fun e => absurd e (by decide), fun e => absurd e (by decide), trivial⟩, 200, chk_3⟩
  have F_4 := fun_mk (st := s_4) l_4 c_4 k_4
  have J_4 : FnJ K tb (fun f => ([g_0, g_1, g_2, g_3, g_4, g_5, g_6, g_7, g_8, g_9, g_10, g_11, g_12, g_13, g_14, g_15, g_16, g_17, g_18, g_19, g_20, g_21, g_22, g_23, g_24, g_25, fa] : List Addr).getD f 0) 4 f_4 _ ["sign"] := ⟨_, _, s_4, n_4, F_4, fsc_by scp_4, F_4.binds (ps := ["sign"]) (fun _ _ _ _ _ _ us hl => match us, hl with | [_], _ => rfl), rfl, rfl, by decide, ⟨fun e => absurd e (by decide), fun e => absurd e (by decide), fun e => absurd e (by decide), fun e => absurd e (by decide), fun e => absurd e (by decide), fun e => absurd e (by decide), trivial⟩, 200, chk_4⟩
  have F_5 := fun_mk (st := s_5) l_5 c_5 k_5
  have J_5 : FnJ K tb (fun f => ([g_0, g_1, g_2, g_3, g_4, g_5, g_6, g_7, g_8, g_9, g_10, g_11, g_12, g_13, g_14, g_15, g_16, g_17, g_18, g_19, g_20, g_21, g_22, g_23, g_24, g_25, fa] : List Addr).getD f 0) 5 f_5 _ ["text", "at"] := ⟨_, _, s_5, n_5, F_5, fsc_by scp_5, F_5.binds (ps := ["text", "at"]) (fun _ _ _ _ _ _ us hl => match us, hl with | [_, _], _ => rfl), rfl, rfl, by decide, ⟨fun e => absurd e (by decide), fun e => absurd e (by decide), fun e => absurd e (by decide), fun e => absurd e (by decide), fun e => absurd e (by decide), fun e => absurd e (by decide), trivial⟩, 200, chk_5⟩
  have F_6 := fun_mk (st := s_6) l_6 c_6 k_6
  have J_6 : FnJ K tb (fun f => ([g_0, g_1, g_2, g_3, g_4, g_5, g_6, g_7, g_8, g_9, g_10, g_11, g_12, g_13, g_14, g_15, g_16, g_17, g_18, g_19, g_20, g_21, g_22, g_23, g_24, g_25, fa] : List Addr).getD f 0) 6 f_6 _ ["row", "line"] := ⟨_, _, s_6, n_6, F_6, fsc_by scp_6, F_6.binds (ps := ["row", "line"]) (fun _ _ _ _ _ _ us hl => match us, hl with | [_, _], _ => rfl), rfl, rfl, by decide, ⟨fun e => absurd e (by decide), fun e => absurd e (by decide), fun e => absurd e (by decide), fun e => absurd e (by decide), fun e => absurd e (by decide), fun e => absurd e (by decide), trivial⟩, 200, chk_6⟩
  have F_7 := fun_mk (st := s_7) l_7 c_7 k_7
  have J_7 : FnJ K tb (fun f => ([g_0, g_1, g_2, g_3, g_4, g_5, g_6, g_7, g_8, g_9, g_10, g_11, g_12, g_13, g_14, g_15, g_16, g_17, g_18, g_19, g_20, g_21, g_22, g_23, g_24, g_25, fa] : List Addr).getD f 0) 7 f_7 _ ["text", "at"] := ⟨_, _, s_7, n_7, F_7, fsc_by scp_7, F_7.binds (ps := ["text", "at"]) (fun _ _ _ _ _ _ us hl => match us, hl with | [_, _], _ => rfl), rfl, rfl, by decide, ⟨fun e => absurd e (by decide), fun e => absurd e (by decide), fun e => absurd e (by decide), fun e => absurd e (by decide), fun e => absurd e (by decide), fun e => absurd e (by decide), trivial⟩, 200, chk_7⟩
  have F_8 := fun_mk (st := s_8) l_8 c_8 k_8
  have J_8 : FnJ K tb (fun f => ([g_0, g_1, g_2, g_3, g_4, g_5, g_6, g_7, g_8, g_9, g_10, g_11, g_12, g_13, g_14, g_15, g_16, g_17, g_18, g_19, g_20, g_21, g_22, g_23, g_24, g_25, fa] : List Addr).getD f 0) 8 f_8 _ ["text"] := ⟨_, _, s_8, n_8, F_8, fsc_by scp_8, F_8.binds (ps := ["text"]) (fun _ _ _ _ _ _ us hl => match us, hl with | [_], _ => rfl), rfl, rfl, by decide, ⟨fun e => absurd e (by decide), fun e => absurd e (by decide), fun _ => kb_mk (by decide) fun s ws hl => match ws, hl with | [_], _ => .of_eq rfl, fun e => absurd e (by decide), fun e => absurd e (by decide), fun e => absurd e (by decide), trivial⟩, 200, chk_8⟩
  have F_9 := fun_mk (st := s_9) l_9 c_9 k_9
  have J_9 : FnJ K tb (fun f => ([g_0, g_1, g_2, g_3, g_4, g_5, g_6, g_7, g_8, g_9, g_10, g_11, g_12, g_13, g_14, g_15, g_16, g_17, g_18, g_19, g_20, g_21, g_22, g_23, g_24, g_25, fa] : List Addr).getD f 0) 9 f_9 _ ["text"] := ⟨_, _, s_9, n_9, F_9, fsc_by scp_9, F_9.binds (ps := ["text"]) (fun _ _ _ _ _ _ us hl => match us, hl with | [_], _ => rfl), rfl, rfl, by decide, ⟨fun e => absurd e (by decide), fun e => absurd e (by decide), fun e => absurd e (by decide), fun e => absurd e (by decide), fun e => absurd e (by decide), fun _ => kb_mk (by decide) fun s ws hl => match ws, hl with | [_], _ => .of_eq rfl, trivial⟩, 200, chk_9⟩
  have F_10 := fun_mk (st := s_10) l_10 c_10 k_10
  have J_10 : FnJ K tb (fun f => ([g_0, g_1, g_2, g_3, g_4, g_5, g_6, g_7, g_8, g_9, g_10, g_11, g_12, g_13, g_14, g_15, g_16, g_17, g_18, g_19, g_20, g_21, g_22, g_23, g_24, g_25, fa] : List Addr).getD f 0) 10 f_10 _ ["text"] := ⟨_, _, s_10, n_10, F_10, fsc_by scp_10, F_10.binds (ps := ["text"]) (fun _ _ _ _ _ _ us hl => match us, hl with | [_], _ => rfl), rfl, rfl, by decide, ⟨fun e => absurd e (by decide), fun e => absurd e (by decide), fun e => absurd e (by decide), fun e => absurd e (by decide), fun e => absurd e (by decide), fun e => absurd e (by decide), trivial⟩, 200, chk_10⟩
  have F_11 := fun_mk (st := s_11) l_11 c_11 k_11
  have J_11 : FnJ K tb (fun f => ([g_0, g_1, g_2, g_3, g_4, g_5, g_6, g_7, g_8, g_9, g_10, g_11, g_12, g_13, g_14, g_15, g_16, g_17, g_18, g_19, g_20, g_21, g_22, g_23, g_24, g_25, fa] : List Addr).getD f 0) 11 f_11 _ ["text"] := ⟨_, _, s_11, n_11, F_11, fsc_by scp_11, F_11.binds (ps := ["text"]) (fun _ _ _ _ _ _ us hl => match us, hl with | [_], _ => rfl), rfl, rfl, by decide, ⟨fun e => absurd e (by decide), fun e => absurd e (by decide), fun e => absurd e (by decide), fun _ => kb_mk (by decide) fun s ws hl => match ws, hl with | [_], _ => .of_eq rfl, fun e => absurd e (by decide), fun e => absurd e (by decide), trivial⟩, 200, chk_11⟩
  have F_12 := fun_mk (st := s_12) l_12 c_12 k_12
  have J_12 : FnJ K tb (fun f => ([g_0, g_1, g_2, g_3, g_4, g_5, g_6, g_7, g_8, g_9, g_10, g_11, g_12, g_13, g_14, g_15, g_16, g_17, g_18, g_19, g_20, g_21, g_22, g_23, g_24, g_25, fa] : List Addr).getD f 0) 12 f_12 _ ["one", "other"] := ⟨_, _, s_12, n_12, F_12, fsc_by scp_12, F_12.binds (ps := ["one", "other"]) (fun _ _ _ _ _ _ us hl => match us, hl with | [_, _], _ => rfl), rfl, rfl, by decide, ⟨fun e => absurd e (by decide), fun e => absurd e (by decide), fun e => absurd e (by decide), fun e => absurd e (by decide), fun _ => kb_mk (by decide) fun s ws hl => match ws, hl with | [_, _], _ => .of_eq rfl, fun e => absurd e (by decide), trivial⟩, 200, chk_12⟩
  have F_13 := fun_mk (st := s_13) l_13 c_13 k_13
  have J_13 : FnJ K tb (fun f => ([g_0, g_1, g_2, g_3, g_4, g_5, g_6, g_7, g_8, g_9, g_10, g_11, g_12, g_13, g_14, g_15, g_16, g_17, g_18, g_19, g_20, g_21, g_22, g_23, g_24, g_25, fa] : List Addr).getD f 0) 13 f_13 _ ["script"] := ⟨_, _, s_13, n_13, F_13, fsc_by scp_13, F_13.binds (ps := ["script"]) (fun _ _ _ _ _ _ us hl => match us, hl with | [_], _ => rfl), rfl, rfl, by decide, ⟨fun e => absurd e (by decide), fun e => absurd e (by decide), fun e => absurd e (by decide), fun e => absurd e (by decide), fun e => absurd e (by decide), fun e => absurd e (by decide), trivial⟩, 200, chk_13⟩
  have F_14 := fun_mk (st := s_14) l_14 c_14 k_14
  have J_14 : FnJ K tb (fun f => ([g_0, g_1, g_2, g_3, g_4, g_5, g_6, g_7, g_8, g_9, g_10, g_11, g_12, g_13, g_14, g_15, g_16, g_17, g_18, g_19, g_20, g_21, g_22, g_23, g_24, g_25, fa] : List Addr).getD f 0) 14 f_14 _ ["vat", "many"] := ⟨_, _, s_14, n_14, F_14, fsc_by scp_14, F_14.binds (ps := ["vat", "many"]) (fun _ _ _ _ _ _ us hl => match us, hl with | [_, _], _ => rfl), rfl, rfl, by decide, ⟨fun e => absurd e (by decide), fun e => absurd e (by decide), fun e => absurd e (by decide), fun e => absurd e (by decide), fun e => absurd e (by decide), fun e => absurd e (by decide), trivial⟩, 200, chk_14⟩
  have F_15 := fun_mk (st := s_15) l_15 c_15 k_15
  have J_15 : FnJ K tb (fun f => ([g_0, g_1, g_2, g_3, g_4, g_5, g_6, g_7, g_8, g_9, g_10, g_11, g_12, g_13, g_14, g_15, g_16, g_17, g_18, g_19, g_20, g_21, g_22, g_23, g_24, g_25, fa] : List Addr).getD f 0) 15 f_15 _ ["told", "due"] := ⟨_, _, s_15, n_15, F_15, fsc_by scp_15, F_15.binds (ps := ["told", "due"]) (fun _ _ _ _ _ _ us hl => match us, hl with | [_, _], _ => rfl), rfl, rfl, by decide, ⟨fun e => absurd e (by decide), fun e => absurd e (by decide), fun e => absurd e (by decide), fun e => absurd e (by decide), fun e => absurd e (by decide), fun e => absurd e (by decide), trivial⟩, 200, chk_15⟩
  have F_16 := fun_mk (st := s_16) l_16 c_16 k_16
  have J_16 : FnJ K tb (fun f => ([g_0, g_1, g_2, g_3, g_4, g_5, g_6, g_7, g_8, g_9, g_10, g_11, g_12, g_13, g_14, g_15, g_16, g_17, g_18, g_19, g_20, g_21, g_22, g_23, g_24, g_25, fa] : List Addr).getD f 0) 16 f_16 _ ["row"] := ⟨_, _, s_16, n_16, F_16, fsc_by scp_16, F_16.binds (ps := ["row"]) (fun _ _ _ _ _ _ us hl => match us, hl with | [_], _ => rfl), rfl, rfl, by decide, ⟨fun e => absurd e (by decide), fun e => absurd e (by decide), fun e => absurd e (by decide), fun e => absurd e (by decide), fun e => absurd e (by decide), fun e => absurd e (by decide), trivial⟩, 200, chk_16⟩
  have F_17 := fun_mk (st := s_17) l_17 c_17 k_17
  have J_17 : FnJ K tb (fun f => ([g_0, g_1, g_2, g_3, g_4, g_5, g_6, g_7, g_8, g_9, g_10, g_11, g_12, g_13, g_14, g_15, g_16, g_17, g_18, g_19, g_20, g_21, g_22, g_23, g_24, g_25, fa] : List Addr).getD f 0) 17 f_17 _ ["text"] := ⟨_, _, s_17, n_17, F_17, fsc_by scp_17, F_17.binds (ps := ["text"]) (fun _ _ _ _ _ _ us hl => match us, hl with | [_], _ => rfl), rfl, rfl, by decide, ⟨fun e => absurd e (by decide), fun e => absurd e (by decide), fun e => absurd e (by decide), fun e => absurd e (by decide), fun e => absurd e (by decide), fun e => absurd e (by decide), trivial⟩, 200, chk_17⟩
  have F_18 := fun_mk (st := s_18) l_18 c_18 k_18
  have J_18 : FnJ K tb (fun f => ([g_0, g_1, g_2, g_3, g_4, g_5, g_6, g_7, g_8, g_9, g_10, g_11, g_12, g_13, g_14, g_15, g_16, g_17, g_18, g_19, g_20, g_21, g_22, g_23, g_24, g_25, fa] : List Addr).getD f 0) 18 f_18 _ ["vat"] := ⟨_, _, s_18, n_18, F_18, fsc_by scp_18, F_18.binds (ps := ["vat"]) (fun _ _ _ _ _ _ us hl => match us, hl with | [_], _ => rfl), rfl, rfl, by decide, ⟨fun e => absurd e (by decide), fun e => absurd e (by decide), fun e => absurd e (by decide), fun e => absurd e (by decide), fun e => absurd e (by decide), fun e => absurd e (by decide), trivial⟩, 200, chk_18⟩
  have F_19 := fun_mk (st := s_19) l_19 c_19 k_19
  have J_19 : FnJ K tb (fun f => ([g_0, g_1, g_2, g_3, g_4, g_5, g_6, g_7, g_8, g_9, g_10, g_11, g_12, g_13, g_14, g_15, g_16, g_17, g_18, g_19, g_20, g_21, g_22, g_23, g_24, g_25, fa] : List Addr).getD f 0) 19 f_19 _ ["vat", "one", "other"] := ⟨_, _, s_19, n_19, F_19, fsc_by scp_19, F_19.binds (ps := ["vat", "one", "other"]) (fun _ _ _ _ _ _ us hl => match us, hl with | [_, _, _], _ => rfl), rfl, rfl, by decide, ⟨fun e => absurd e (by decide), fun e => absurd e (by decide), fun e => absurd e (by decide), fun e => absurd e (by decide), fun e => absurd e (by decide), fun e => absurd e (by decide), trivial⟩, 200, chk_19⟩
  have F_20 := fun_mk (st := s_20) l_20 c_20 k_20
  have J_20 : FnJ K tb (fun f => ([g_0, g_1, g_2, g_3, g_4, g_5, g_6, g_7, g_8, g_9, g_10, g_11, g_12, g_13, g_14, g_15, g_16, g_17, g_18, g_19, g_20, g_21, g_22, g_23, g_24, g_25, fa] : List Addr).getD f 0) 20 f_20 _ ["vat", "words"] := ⟨_, _, s_20, n_20, F_20, fsc_by scp_20, F_20.binds (ps := ["vat", "words"]) (fun _ _ _ _ _ _ us hl => match us, hl with | [_, _], _ => rfl), rfl, rfl, by decide, ⟨fun e => absurd e (by decide), fun e => absurd e (by decide), fun e => absurd e (by decide), fun e => absurd e (by decide), fun e => absurd e (by decide), fun e => absurd e (by decide), trivial⟩, 200, chk_20⟩
  have F_21 := fun_mk (st := s_21) l_21 c_21 k_21
  have J_21 : FnJ K tb (fun f => ([g_0, g_1, g_2, g_3, g_4, g_5, g_6, g_7, g_8, g_9, g_10, g_11, g_12, g_13, g_14, g_15, g_16, g_17, g_18, g_19, g_20, g_21, g_22, g_23, g_24, g_25, fa] : List Addr).getD f 0) 21 f_21 _ ["which", "one", "other"] := ⟨_, _, s_21, n_21, F_21, fsc_by scp_21, F_21.binds (ps := ["which", "one", "other"]) (fun _ _ _ _ _ _ us hl => match us, hl with | [_, _, _], _ => rfl), rfl, rfl, by decide, ⟨fun e => absurd e (by decide), fun e => absurd e (by decide), fun e => absurd e (by decide), fun e => absurd e (by decide), fun e => absurd e (by decide), fun e => absurd e (by decide), trivial⟩, 200, chk_21⟩
  have F_22 := fun_mk (st := s_22) l_22 c_22 k_22
  have J_22 : FnJ K tb (fun f => ([g_0, g_1, g_2, g_3, g_4, g_5, g_6, g_7, g_8, g_9, g_10, g_11, g_12, g_13, g_14, g_15, g_16, g_17, g_18, g_19, g_20, g_21, g_22, g_23, g_24, g_25, fa] : List Addr).getD f 0) 22 f_22 _ ["text", "others"] := ⟨_, _, s_22, n_22, F_22, fsc_by scp_22, F_22.binds (ps := ["text", "others"]) (fun _ _ _ _ _ _ us hl => match us, hl with | [_, _], _ => rfl), rfl, rfl, by decide, ⟨fun e => absurd e (by decide), fun e => absurd e (by decide), fun e => absurd e (by decide), fun e => absurd e (by decide), fun e => absurd e (by decide), fun e => absurd e (by decide), trivial⟩, 200, chk_22⟩
  have F_23 := fun_mk (st := s_23) l_23 c_23 k_23
  have J_23 : FnJ K tb (fun f => ([g_0, g_1, g_2, g_3, g_4, g_5, g_6, g_7, g_8, g_9, g_10, g_11, g_12, g_13, g_14, g_15, g_16, g_17, g_18, g_19, g_20, g_21, g_22, g_23, g_24, g_25, fa] : List Addr).getD f 0) 23 f_23 _ ["vat", "words"] := ⟨_, _, s_23, n_23, F_23, fsc_by scp_23, F_23.binds (ps := ["vat", "words"]) (fun _ _ _ _ _ _ us hl => match us, hl with | [_, _], _ => rfl), rfl, rfl, by decide, ⟨fun e => absurd e (by decide), fun e => absurd e (by decide), fun e => absurd e (by decide), fun e => absurd e (by decide), fun e => absurd e (by decide), fun e => absurd e (by decide), trivial⟩, 200, chk_23⟩
  have F_24 := fun_mk (st := s_24) l_24 c_24 k_24
  have J_24 : FnJ K tb (fun f => ([g_0, g_1, g_2, g_3, g_4, g_5, g_6, g_7, g_8, g_9, g_10, g_11, g_12, g_13, g_14, g_15, g_16, g_17, g_18, g_19, g_20, g_21, g_22, g_23, g_24, g_25, fa] : List Addr).getD f 0) 24 f_24 _ ["vat"] := ⟨_, _, s_24, n_24, F_24, fsc_by scp_24, F_24.binds (ps := ["vat"]) (fun _ _ _ _ _ _ us hl => match us, hl with | [_], _ => rfl), rfl, rfl, by decide, ⟨fun e => absurd e (by decide), fun e => absurd e (by decide), fun e => absurd e (by decide), fun e => absurd e (by decide), fun e => absurd e (by decide), fun e => absurd e (by decide), trivial⟩, 200, chk_24⟩
  have F_25 := fun_mk (st := s_25) l_25 c_25 k_25
  have J_25 : FnJ K tb (fun f => ([g_0, g_1, g_2, g_3, g_4, g_5, g_6, g_7, g_8, g_9, g_10, g_11, g_12, g_13, g_14, g_15, g_16, g_17, g_18, g_19, g_20, g_21, g_22, g_23, g_24, g_25, fa] : List Addr).getD f 0) 25 f_25 _ [] := ⟨_, _, s_25, n_25, F_25, fsc_by scp_25, F_25.binds (ps := []) (fun _ _ _ _ _ _ us hl => match us, hl with | [], _ => rfl), rfl, rfl, by decide, ⟨fun e => absurd e (by decide), fun e => absurd e (by decide), fun e => absurd e (by decide), fun e => absurd e (by decide), fun e => absurd e (by decide), fun e => absurd e (by decide), trivial⟩, 200, chk_25⟩
  have F_26 := fun_mk (st := s_26) l_26 c_26 k_26
  have J_26 : FnJ K tb (fun f => ([g_0, g_1, g_2, g_3, g_4, g_5, g_6, g_7, g_8, g_9, g_10, g_11, g_12, g_13, g_14, g_15, g_16, g_17, g_18, g_19, g_20, g_21, g_22, g_23, g_24, g_25, fa] : List Addr).getD f 0) 26 f_26 _ ["script"] := ⟨_, _, s_26, n_26, F_26, fsc_by scp_26, F_26.binds (ps := ["script"]) (fun _ _ _ _ _ _ us hl => match us, hl with | [_], _ => rfl), rfl, rfl, by decide, ⟨fun e => absurd e (by decide), fun e => absurd e (by decide), fun e => absurd e (by decide), fun e => absurd e (by decide), fun e => absurd e (by decide), fun e => absurd e (by decide), trivial⟩, 200, chk_26⟩
  have A : AllI (fun f t => ∃ fd ps, FnJ K tb (fun f => ([g_0, g_1, g_2, g_3, g_4, g_5, g_6, g_7, g_8, g_9, g_10, g_11, g_12, g_13, g_14, g_15, g_16, g_17, g_18, g_19, g_20, g_21, g_22, g_23, g_24, g_25, fa] : List Addr).getD f 0) f t fd ps) 0 pg.fns := ⟨⟨_, _, J_0⟩, ⟨_, _, J_1⟩, ⟨_, _, J_2⟩, ⟨_, _, J_3⟩, ⟨_, _, J_4⟩, ⟨_, _, J_5⟩, ⟨_, _, J_6⟩, ⟨_, _, J_7⟩, ⟨_, _, J_8⟩, ⟨_, _, J_9⟩, ⟨_, _, J_10⟩, ⟨_, _, J_11⟩, ⟨_, _, J_12⟩, ⟨_, _, J_13⟩, ⟨_, _, J_14⟩, ⟨_, _, J_15⟩, ⟨_, _, J_16⟩, ⟨_, _, J_17⟩, ⟨_, _, J_18⟩, ⟨_, _, J_19⟩, ⟨_, _, J_20⟩, ⟨_, _, J_21⟩, ⟨_, _, J_22⟩, ⟨_, _, J_23⟩, ⟨_, _, J_24⟩, ⟨_, _, J_25⟩, ⟨_, _, J_26⟩, trivial⟩
  have I : ∀ f t, pg.fns[f]? = some t → ∃ fd ps, FnJ K tb (fun f => ([g_0, g_1, g_2, g_3, g_4, g_5, g_6, g_7, g_8, g_9, g_10, g_11, g_12, g_13, g_14, g_15, g_16, g_17, g_18, g_19, g_20, g_21, g_22, g_23, g_24, g_25, fa] : List Addr).getD f 0) f t fd ps := fun f t hf => by
    have z := AllI.get A hf
    rw [Nat.zero_add] at z
    exact z
  exact ⟨_, fun s v => .of_eq rfl, fun base _ _ => fn_law (n := 63) (d := 20) (f := 26) tab I rfl J_26 rfl hplain⟩
end LK
open PySem PySem.W PyProof.Rows
set_option maxRecDepth 100000 in
set_option maxHeartbeats 0 in
theorem PySem.Challenge.cw_turnedtogether_k00_words_and_plain_texts_holds : PySem.Challenge.rw_turnedtogether_k00_words_and_plain_texts.Holds := by
  w_on; o_law; k_head; (case hw => w_witness2)
  k_fill
  refine L2.walk_of (l := PySem.Challenge.rw_turnedtogether_k00_words_and_plain_texts) (n := 63) (k := 22) (x := "script") (CX := fun w => L2.CX PySem.Challenge.rw_turnedtogether_k00_words_and_plain_texts.prog w) (sp := fun w => LX.spLaw 63 _) rfl (by decide) rfl ⟨rfl, by decide, by decide⟩ (fun w h Y => PySem.W.kIn_of Y) ?F (fun _ _ a ns hl hO hS => LX.sp_in hl hO hS) (fun _ _ _ _ _ z => by obtain ⟨_, _, _, _, _, _, _, _, _, _, _, _, q⟩ := z; exact q.elim)
  case F =>
    intro w mg fa h KX G hmg
    refine' LK.all_mk LK.law_plain KX G hmg ?a_0 ?l_0 ?c_0 ?k_0 ?a_1 ?l_1 ?c_1 ?k_1 ?a_2 ?l_2 ?c_2 ?k_2 ?a_3 ?l_3 ?c_3 ?k_3 ?a_4 ?l_4 ?c_4 ?k_4 ?a_5 ?l_5 ?c_5 ?k_5 ?a_6 ?l_6 ?c_6 ?k_6 ?a_7 ?l_7 ?c_7 ?k_7 ?a_8 ?l_8 ?c_8 ?k_8 ?a_9 ?l_9 ?c_9 ?k_9 ?a_10 ?l_10 ?c_10 ?k_10 ?a_11 ?l_11 ?c_11 ?k_11 ?a_12 ?l_12 ?c_12 ?k_12 ?a_13 ?l_13 ?c_13 ?k_13 ?a_14 ?l_14 ?c_14 ?k_14 ?a_15 ?l_15 ?c_15 ?k_15 ?a_16 ?l_16 ?c_16 ?k_16 ?a_17 ?l_17 ?c_17 ?k_17 ?a_18 ?l_18 ?c_18 ?k_18 ?a_19 ?l_19 ?c_19 ?k_19 ?a_20 ?l_20 ?c_20 ?k_20 ?a_21 ?l_21 ?c_21 ?k_21 ?a_22 ?l_22 ?c_22 ?k_22 ?a_23 ?l_23 ?c_23 ?k_23 ?a_24 ?l_24 ?c_24 ?k_24 ?a_25 ?l_25 ?c_25 ?k_25 ?a_26 ?l_26 ?c_26 ?k_26 ?xa_0 ?xi_0 ?xt_0 ?xb_0 ?xa_1 ?xi_1 ?xt_1 ?xb_1 ?xa_2 ?xi_2 ?xt_2 ?xb_2 ?xa_3 ?xi_3 ?xt_3 ?xb_3 ?xa_4 ?xi_4 ?xt_4 ?xb_4 ?xa_5 ?xi_5 ?xt_5 ?xb_5 ?xa_6 ?xi_6 ?xt_6 ?xb_6 ?sp ?tk ?u_0_0 ?u_0_1 ?u_0_2 ?u_0_3 ?u_0_4 ?u_0_5 ?u_0_6 ?xl_0 ?sa_0 ?ga_0 ?gg_0 ?cc_0 ?mr_0 ?hd_0 ?kc_0 ?nf_0_line ?nf_0_word ?ia_0 ?it_0 ?l_i0 ?c_i0 ?k_i0 ?b_0 ?b_1 ?b_2 ?b_3 ?b_4 ?b_5 ?b_6 ?b_7 ?b_8 ?b_9 ?q_0 ?q_1 ?q_2 ?q_3 ?q_4 ?q_5 ?q_6 ?q_7 ?qq_7
    (case a_0 => k_is); (case l_0 => k_is); (case c_0 => k_is); (case k_0 => k_is); (case a_1 => k_is); (case l_1 => k_is)
    (case c_1 => k_is); (case k_1 => k_is); (case a_2 => k_is); (case l_2 => k_is); (case c_2 => k_is); (case k_2 => k_is)
    (case a_3 => k_is); (case l_3 => k_is); (case c_3 => k_is); (case k_3 => k_is); (case a_4 => k_is); (case l_4 => k_is)
    (case c_4 => k_is); (case k_4 => k_is); (case a_5 => k_is); (case l_5 => k_is); (case c_5 => k_is); (case k_5 => k_is)
    (case a_6 => k_is); (case l_6 => k_is); (case c_6 => k_is); (case k_6 => k_is); (case a_7 => k_is); (case l_7 => k_is)
    (case c_7 => k_is); (case k_7 => k_is); (case a_8 => k_is); (case l_8 => k_is); (case c_8 => k_is); (case k_8 => k_is)
    (case a_9 => k_is); (case l_9 => k_is); (case c_9 => k_is); (case k_9 => k_is); (case a_10 => k_is); (case l_10 => k_is)
    (case c_10 => k_is); (case k_10 => k_is); (case a_11 => k_is); (case l_11 => k_is); (case c_11 => k_is); (case k_11 => k_is)
    (case a_12 => k_is); (case l_12 => k_is); (case c_12 => k_is); (case k_12 => k_is); (case a_13 => k_is); (case l_13 => k_is)
    (case c_13 => k_is); (case k_13 => k_is); (case a_14 => k_is); (case l_14 => k_is); (case c_14 => k_is); (case k_14 => k_is)
    (case a_15 => k_is); (case l_15 => k_is); (case c_15 => k_is); (case k_15 => k_is); (case a_16 => k_is); (case l_16 => k_is)
    (case c_16 => k_is); (case k_16 => k_is); (case a_17 => k_is); (case l_17 => k_is); (case c_17 => k_is); (case k_17 => k_is)
    (case a_18 => k_is); (case l_18 => k_is); (case c_18 => k_is); (case k_18 => k_is); (case a_19 => k_is); (case l_19 => k_is)
    (case c_19 => k_is); (case k_19 => k_is); (case a_20 => k_is); (case l_20 => k_is); (case c_20 => k_is); (case k_20 => k_is)
    (case a_21 => k_is); (case l_21 => k_is); (case c_21 => k_is); (case k_21 => k_is); (case a_22 => k_is); (case l_22 => k_is)
    (case c_22 => k_is); (case k_22 => k_is); (case a_23 => k_is); (case l_23 => k_is); (case c_23 => k_is); (case k_23 => k_is)
    (case a_24 => k_is); (case l_24 => k_is); (case c_24 => k_is); (case k_24 => k_is); (case a_25 => k_is); (case l_25 => k_is)
    (case c_25 => k_is); (case k_25 => k_is); (case a_26 => k_is); (case l_26 => k_is); (case c_26 => k_is); (case k_26 => k_is)
    (case xa_0 => k_is); (case xi_0 => k_is); (case xt_0 => k_is); (case xb_0 => k_is); (case xa_1 => k_is); (case xi_1 => k_is)
    (case xt_1 => k_is); (case xb_1 => k_is); (case xa_2 => k_is); (case xi_2 => k_is); (case xt_2 => k_is); (case xb_2 => k_is)
    (case xa_3 => k_is); (case xi_3 => k_is); (case xt_3 => k_is); (case xb_3 => k_is); (case xa_4 => k_is); (case xi_4 => k_is)
    (case xt_4 => k_is); (case xb_4 => k_is); (case xa_5 => k_is); (case xi_5 => k_is); (case xt_5 => k_is); (case xb_5 => k_is)
    (case xa_6 => k_is); (case xi_6 => k_is); (case xt_6 => k_is); (case xb_6 => k_is); (case sp => k_is); (case tk => k_is)
    (case u_0_0 => k_is); (case u_0_1 => k_is); (case u_0_2 => k_is); (case u_0_3 => k_is); (case u_0_4 => k_is); (case u_0_5 => k_is)
    (case u_0_6 => k_is); (case xl_0 => k_is); (case sa_0 => k_is); (case ga_0 => k_is); (case gg_0 => k_is); (case cc_0 => k_is)
    (case mr_0 => k_is); (case hd_0 => k_is); (case kc_0 => k_is); (case nf_0_line => k_is); (case nf_0_word => k_is); (case ia_0 => k_is)
    (case it_0 => k_is); (case l_i0 => k_is); (case c_i0 => k_is); (case k_i0 => k_is); (case b_0 => k_is); (case b_1 => k_is)
    (case b_2 => k_is); (case b_3 => k_is); (case b_4 => k_is); (case b_5 => k_is); (case b_6 => k_is); (case b_7 => k_is)
    (case b_8 => k_is); (case b_9 => k_is); (case q_0 => k_is); (case q_1 => k_is); (case q_2 => k_is); (case q_3 => k_is)
    (case q_4 => k_is); (case q_5 => k_is); (case q_6 => k_is); (case q_7 => k_is); (case qq_7 => k_is)
