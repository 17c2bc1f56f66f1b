import PyProof.Rows.All
import Wide.All
import OpenK.AllK
import Wide.FinOn
import PyProof.TupleOfStr
import HandS.Conv
import HandS.TupMul
import HandS.ForMost
import HandS.ForExc
import HandS.TupAny
import HandS.WideBits
import HandS.Deep
import HandS.Text
import HandS.IsInst
import HandS.Style
import HandS.ExcInit
import HandS.Iter
import HandS.Comp
import HandS.Zip
import HandS.TryMany
import HandS.NoneIn
import HandS.ExcField
import HandS.WordsExc
import HandS.ExcOwn
import KE.KExcIs
import HandS.HotCalls
import HandS.Strs
import HandS.Set
import HandS.SetFor
import HandS.SetTxt0
import HandS.Codes
import HandS.StrMore
import HandS.Dict
import HandS.More
import HandS.Ends
import PySem.Challenge.RW_turnedtogether_k23_code_checked
set_option Elab.async false
set_option linter.all false
set_option maxRecDepth 100000
set_option maxHeartbeats 4000000
/-! LxLstr: list(text). -/
namespace LX
open PySem PySem.Spec PySem.Calls L2 PyProof.Rows
section
variable {prog : Program} {w : World} {A : Around} {E : Value → Shared → Prop} {s : Shared} {z : Str} {u : Tok}
theorem ls_hint {Q : Bool → Shared → Prop} (h : Q false s) : wpAny (model prog w) A (Builtin.List.listLengthHint (.str z u)) Q E s := by
  unfold Builtin.List.listLengthHint
  refine wpAny_bind (wpAny_specialOf (typeIs_str s z u) PySem.F.slot_str_len.lookup ?_)
  generalize hid : ("str.__len__" : String) = id0
  wp_delta
  rw [show splitId id0 = some ("str", "__len__") from by subst hid; decide +kernel]
  subst hid
  refine wpAny_bind (wpAny_isInstance (T := "str") (b := true) (typeIs_str s z u) (by rw [isSubtype_type]; kernel_rfl) ?_)
  refine wpAny_ite_split (fun q => absurd q (by decide)) (fun _ => ?_)
  refine wpAny_ite_split (fun _ => ?_) (fun q => absurd (by decide +kernel) q)
  exact wpAny_bind (wpAny_typeOf (typeIs_str s z u) (wpAny_pure h))
theorem ls_extend {R : Result → Shared → Prop} (hh : A.handled = none) (S : Addr) (c₀ : Nat) (hS : s.heap.get? S = some { cls := .type "list", data := .seq #[] c₀ })
    (hR : ∀ h' tk acc c, (∀ b o, b ≠ S → s.heap.get? b = some o → h'.get? b = some o) → h'.get? S = some { cls := .type "list", dict := none, data := .seq acc c, slots := #[] } → ItemsOf (SignAt z) acc z.cps.size → R (.ok (.ret .none)) { s with heap := h', toks := tk }) (hn : z.cps.size ≤ sizeLine) :
    wpAny (model prog w) A.in1 (Builtin.List.listExtendWith (.ref S) (.str z u) .none)
      (fun fin s' => match fin with | .done f => R (.ok f) s' | .again c' => c'.quiet = true ∧ codeAny (model prog w) A c' R s') (fun e s' => R (.error e) s') s := by
  have ne : S ≠ s.heap.objs.size := Nat.ne_of_lt (Heap.lt_size hS)
  unfold Builtin.List.listExtendWith
  refine wpAny_bind (wpAny_typeOf (T := "str") (typeIs_str s z u) ?_)
  have e1 : Builtin.List.listSameRef (.ref S) (.str z u) = false := rfl
  have e2 : (Value.type "str" == Value.type "list") = false := by decide
  have e3 : (Value.type "str" == Value.type "tuple") = false := by decide
  simp only [e1, e2, e3, Bool.or_false, Bool.false_eq_true, if_false]
  refine wpAny_bind (wpAny_pyIter_str fun oI St W st => ?_)
  have hS1 := Heap.get?_push_of_some oI hS
  have go : ∀ (h : Heap) (c1 tk : Nat), St 0 h → (∀ b o, b ≠ S → s.heap.get? b = some o → h.get? b = some o) → h.get? S = some { cls := .type "list", data := .seq #[] c1 } →
      codeAny (model prog w) A (.builtin "list.extend.loop" ⟨[.ref S, .ref s.heap.objs.size, .none], []⟩) R { s with heap := h, toks := tk } := fun h c1 tk hst hk h1 => by
    refine codeAny_extend_loopS (W A.in1 hh).toS hn S (fun q => ne (List.mem_singleton.mp q)) .none z.cps.size 0 _ #[] c1 rfl (Nat.zero_le _) hst h1 (ItemsOf.nil _) fun s' acc c hm hS' hacc => ?_
    rw [Moved.eq_with hm]
    refine hR s'.heap s'.toks acc c (fun b o hb e => hm.heap b o (fun q => ?_) (hk b o hb e)) hS' hacc
    rcases List.mem_cons.mp q with q | q
    · exact hb q
    · exact absurd (Heap.lt_size e) (by rw [List.mem_singleton.mp q]; exact Nat.lt_irrefl _)
  refine wpAny_bind (wpAny_holding (ls_hint ?_))
  refine wpAny_ite_split (fun _ => ?_) (fun _ => wpAny_pure ⟨plainId_quiet PySem.F.plain_extend_loop _, go _ c₀ _ st (fun b o _ e => Heap.get?_push_of_some _ e) hS1⟩)
  refine wpAny_bind (wpAny_rule (wpAny_bind ?_))
  show wpAny _ _ (updateSeq S (·.push .none) >>= fun _ => updateSeq S (·.pop)) _ _ _
  refine wpAny_bind (wpAny_updateSeq hS1 rfl ?_)
  have hS2 := Heap.get?_update_self (Obj.mapSeq (·.push Value.none)) hS1 rfl
  refine wpAny_updateSeq (hz := by seq_fits) hS2 rfl ?_
  have hS3 := Heap.get?_update_self (Obj.mapSeq (·.pop)) hS2 rfl
  have oth : ∀ b o, b ≠ S → (s.heap.push oI).get? b = some o → (((s.heap.push oI).update S (Obj.mapSeq (·.push Value.none))).update S (Obj.mapSeq (·.pop))).get? b = some o := fun b o hb e =>
    (Heap.get?_update_other _ _ (Ne.symm hb)).trans ((Heap.get?_update_other _ _ (Ne.symm hb)).trans e)
  exact wpAny_pure ⟨plainId_quiet PySem.F.plain_extend_loop _, go _ _ _ ((W A.in1 hh).frame 0 _ _ st fun b hb o e => oth b o (fun q => ne (q.symm.trans (List.mem_singleton.mp hb))) e) (fun b o hb e => oth b o hb (Heap.get?_push_of_some _ e)) hS3⟩
theorem ls_call {Q : Value → Shared → Prop} (hh : A.handled = none) (hn : z.cps.size ≤ sizeLine)
    (hQ : ∀ h' tk acc c, (∀ b o, s.heap.get? b = some o → h'.get? b = some o) → h'.get? s.heap.objs.size = some { cls := .type "list", dict := none, data := .seq acc c, slots := #[] } → ItemsOf (SignAt z) acc z.cps.size → Q (.ref s.heap.objs.size) { s with heap := h', toks := tk }) :
    wpAny (model prog w) A (call (.type "list") [.str z u]) Q E s := by
  refine callType_codes (Q₁ := fun obj s₁ => obj = .ref s.heap.objs.size ∧ s₁ = { s with heap := s.heap.push { cls := .type "list", data := .seq #[] } }) PySem.F.called_list (PySem.F.typeCall_list_1 _) PySem.F.entry_list_init (code_list_new _ ⟨rfl, rfl⟩) fun obj s₁ h₁ => ?_
  obtain ⟨rfl, rfl⟩ := h₁
  have hS : (s.heap.push { cls := .type "list", data := .seq #[] }).get? s.heap.objs.size = some { cls := .type "list", data := .seq #[] } := Heap.get?_push_size _ rfl
  refine ⟨⟨_, hS, rfl⟩, PySem.F.args_list_init_2 _ _, ?_⟩
  show wpAny _ _ (do let old ← Builtin.List.listItems (.ref s.heap.objs.size); Builtin.List.listUpdate (.ref s.heap.objs.size) (fun _ => #[]); letGo old.toList.reverse; Builtin.List.listExtendWith (.ref s.heap.objs.size) (.str z u) .none) _ _ _
  refine wpAny_bind ?_
  unfold Builtin.List.listItems
  refine wpAny_bind (wpAny_seqItems hS rfl (wpAny_pure ?_))
  show wpAny _ _ (updateSeq s.heap.objs.size (fun _ => #[]) >>= fun _ => letGo (#[] : Array Value).toList.reverse >>= fun _ => Builtin.List.listExtendWith (.ref s.heap.objs.size) (.str z u) .none) _ _ _
  refine wpAny_bind (wpAny_updateSeq hS rfl ?_)
  have hS2 := Heap.get?_update_self (Obj.mapSeq (fun _ => (#[] : Array Value))) hS rfl
  refine wpAny_bind (wpAny_letGo ?_)
  refine ls_extend (A := A.in1) hh _ _ hS2 (fun h' tk acc c hk hS' hacc => ?_) hn
  refine ⟨rfl, hQ h' tk acc c (fun b o e => ?_) hS' hacc⟩
  have hb : b ≠ s.heap.objs.size := Nat.ne_of_lt (Heap.lt_size e)
  exact hk b o hb ((Heap.get?_update_other _ _ (Ne.symm hb)).trans (Heap.get?_push_of_some _ e))
end
def rListS : List V → Hp → VK → Prop := fun xs H Q => ∃ z : Str, xs = [.str z] ∧ z.length ≤ sizeLine ∧ ∀ q, H q = none → Q (.ref q) (upd H q (.lst (z.cps.toList.map fun c => V.str ⟨#[c]⟩)))
theorem call_list_str {X : Cx} (hc : X.calm = true) : CallR X (.type "list") rListS := by
  intro pins s σ H xs us Q I r h
  obtain ⟨z, rfl, hz, q⟩ := h
  obtain ⟨v, rfl, rx⟩ := vals1 r
  obtain ⟨t, rfl⟩ := rx
  refine ls_call (I.ok.hd hc) hz fun h' tk acc c hk hS hacc => ?_
  refine ⟨.ref s.heap.objs.size, _, I.laid hk (Nat.le_refl _) (show ObjOk X.prog X.w _ _ _ (.lst (z.cps.toList.map fun c => V.str ⟨#[c]⟩)) from ⟨?_, acc.toList, c, ?_, ?_⟩), rfl, q _ (I.hok.fresh (Nat.le_refl _))⟩
  · rw [List.length_map, Array.length_toList]
    exact hz
  · refine vals_of_at (by rw [List.length_map, Array.length_toList, Array.length_toList, hacc.1]) fun j x w h1 h2 => ?_
    obtain ⟨d, t', e1, e2⟩ := hacc.2 j w (by rw [← Array.getElem?_toList]; exact h2)
    rw [List.getElem?_map, Array.getElem?_toList, e1] at h1
    cases h1
    exact ⟨t', e2⟩
  · rw [Array.toArray_toList]
    exact hS
def rTupS : List V → Hp → VK → Prop := fun xs H Q => ∃ z : Str, xs = [.str z] ∧ z.length ≤ sizeLine ∧ ∀ q, H q = none → Q (.ref q) (upd H q (.tup (z.cps.toList.map fun c => V.str ⟨#[c]⟩)))
theorem call_tupS {X : Cx} (hc : X.calm = true) : CallR X (.type "tuple") rTupS := by
  intro pins s σ H xs us Q I r h
  obtain ⟨z, rfl, hz, q⟩ := h
  obtain ⟨v, rfl, rx⟩ := vals1 r
  obtain ⟨t, rfl⟩ := rx
  refine PySem.call_tuple_str (I.ok.hd hc) z t (fun h' tk acc hk hacc => ?_) hz
  have I1 : Inv X pins σ H { s with heap := h', toks := tk } := I.kept hk
  refine ⟨.ref h'.objs.size, _, I1.laid (t' := tk) (fun b o e => Heap.get?_push_of_some _ e) (Nat.le_refl _) (show ObjOk X.prog X.w _ _ _ (.tup (z.cps.toList.map fun c => V.str ⟨#[c]⟩)) from ⟨?_, acc.toList, ?_, ?_⟩), rfl, q _ (I1.hok.fresh (Nat.le_refl _))⟩
  · rw [List.length_map, Array.length_toList]
    exact hz
  · refine vals_of_at (by rw [List.length_map, Array.length_toList, Array.length_toList, hacc.1]) fun j x w h1 h2 => ?_
    obtain ⟨d, t', e1, e2⟩ := hacc.2 j w (by rw [← Array.getElem?_toList]; exact h2)
    rw [List.getElem?_map, Array.getElem?_toList, e1] at h1
    cases h1
    exact ⟨t', e2⟩
  · rw [Array.toArray_toList]
    exact IsTup.new _ _
end LX

set_option Elab.async false
set_option linter.all false
set_option maxRecDepth 100000
set_option maxHeartbeats 4000000
/-! LxTup: tuple * int where the tuple stays, or is empty. -/
namespace LX
open PySem PySem.Spec L2 PyProof.Rows
theorem tup_mul_same (l : Addr) (items : Array Value) (n : Nat) (dd : Option Addr) (sl : Array (Option Value)) (x : Int) (u : Tok) (c0 : (decide (x < -(2 ^ 63)) || decide (x ≥ 2 ^ 63)) = false) (c1 : (items.isEmpty || x == 1) = true) :
    Meets (Builtin.«tuple.__mul__» ⟨[.ref l, .int x u], []⟩) (fun _ R s => s.heap.get? l = some { cls := .type "tuple", dict := dd, data := .seq items n, slots := sl } ∧ R (.ok (.ret (Value.ref l))) s) :=
  .of_wp fun prog w A R s h => by
    obtain ⟨hp, g, d, tk, os⟩ := s
    obtain ⟨hl, h⟩ := h
    have f1 := AutoSeq1.idx_int
    wp_walk using wpAny_loadPart' hl
    repeat (first
      | (refine wpAny_ite_false (decide_eq_false (by rw [c0]; exact Bool.false_ne_true)) ?_; wp_walk using wpAny_loadPart' hl)
      | (refine wpAny_ite_true (decide_eq_true c1) ?_; wp_walk using wpAny_loadPart' hl))
    exact ⟨_, rfl, h⟩
theorem tup_mul_none (l : Addr) (items : Array Value) (n : Nat) (dd : Option Addr) (sl : Array (Option Value)) (x : Int) (u : Tok) (c0 : (decide (x < -(2 ^ 63)) || decide (x ≥ 2 ^ 63)) = false) (c1 : (items.isEmpty || x == 1) = false) (c2 : (decide (x ≤ 0) || items.isEmpty) = true) :
    Meets (Builtin.«tuple.__mul__» ⟨[.ref l, .int x u], []⟩) (fun _ R s => s.heap.get? l = some { cls := .type "tuple", dict := dd, data := .seq items n, slots := sl } ∧
      R (.ok (.ret (Value.ref s.heap.objs.size))) { s with heap := s.heap.push { cls := Value.type "tuple", data := Data.seq #[] }, toks := s.toks }) :=
  .of_wp fun prog w A R s h => by
    obtain ⟨hp, g, d, tk, os⟩ := s
    obtain ⟨hl, h⟩ := h
    have f1 := AutoSeq1.idx_int
    wp_walk using wpAny_loadPart' hl
    repeat (first
      | (refine wpAny_ite_false (decide_eq_false (by rw [c0]; exact Bool.false_ne_true)) ?_; wp_walk using wpAny_loadPart' hl)
      | (refine wpAny_ite_false (decide_eq_false (by rw [c1]; exact Bool.false_ne_true)) ?_; wp_walk using wpAny_loadPart' hl)
      | (refine wpAny_ite_true (decide_eq_true c2) ?_; wp_walk using wpAny_loadPart' hl))
    exact ⟨_, rfl, h⟩
/-- t * k where the tuple stays -/
def rRepS (K : PySem.W.Frag) : R2 := fun x y H Q => ∃ l k xs, x = .ref l ∧ y = .int k ∧ SqT K H l xs ∧ -(2 ^ 62) ≤ k ∧ k < 2 ^ 62 ∧ (xs = [] ∨ k = 1) ∧ Q (.ref l) H
/-- t * k where nothing is left -/
def rRepZ (K : PySem.W.Frag) : R2 := fun x y H Q => ∃ l k xs, x = .ref l ∧ y = .int k ∧ SqT K H l xs ∧ xs ≠ [] ∧ -(2 ^ 62) ≤ k ∧ k ≤ 0 ∧ ∀ p, H p = none → Q (.ref p) (upd H p (.tup []))
section
variable {X : Cx}
theorem op_repS : OpR X (binaryOp .Mult) (rRepS X.K) := by
  intro pins s σ H x y v u Q I rx ry h
  obtain ⟨l, k, xs, rfl, rfl, hT, h1, h2, hs, q⟩ := h
  cases rx
  obtain ⟨t, rfl⟩ := ry
  obtain ⟨its, r, ⟨⟨cls, dd, data, sl⟩, ho, hc, n, hd⟩, _⟩ := I.tuple hT
  simp only at hc hd
  subst hc hd
  have hle : its.length = xs.length := r.length.symm
  have c0 : (decide (k < -(2 ^ 63)) || decide (k ≥ 2 ^ 63)) = false := by
    rw [decide_eq_false (by omega), decide_eq_false (by omega)] <;> rfl
  have c1 : (its.toArray.isEmpty || k == 1) = true := by
    rcases hs with e | e
    · rw [e] at hle
      have : its = [] := List.eq_nil_of_length_eq_zero hle
      rw [this]
      rfl
    · rw [e]
      simp
  refine wpAny_binaryOp_repeat_ref (T := "tuple") (U := "int") (by decide) ⟨_, ho, rfl⟩ (fun s' => typeIs_int s' k t) noFill_tuple_mul F.fills_int_mul F.slot_int_rmul repeat_tuple F.slot_int_index.lookup
    (call_meets F.slot_int_rmul (typeIs_int s k t) F.entry_int_rmul (F.args_int_rmul_2 _ _) (int_rmul_tuple k t l its.toArray n dd sl)
      ⟨ho, rfl, ⟨_, ho, rfl⟩, call_meets F.slot_tuple_mul ⟨_, ho, rfl⟩ F.entry_tuple_mul (F.args_tuple_mul_2 _ _) (tup_mul_same l its.toArray n dd sl k t c0 c1) ⟨ho, ?_⟩⟩)
  exact ⟨.ref l, H, I, rfl, q⟩
theorem op_repZ : OpR X (binaryOp .Mult) (rRepZ X.K) := by
  intro pins s σ H x y v u Q I rx ry h
  obtain ⟨l, k, xs, rfl, rfl, hT, hne, h1, h2, q⟩ := h
  cases rx
  obtain ⟨t, rfl⟩ := ry
  obtain ⟨its, r, ⟨⟨cls, dd, data, sl⟩, ho, hc, n, hd⟩, _⟩ := I.tuple hT
  simp only at hc hd
  subst hc hd
  have hle : its.length = xs.length := r.length.symm
  have hi : its.toArray.isEmpty = false := by
    cases its with
    | nil => exact absurd (List.eq_nil_of_length_eq_zero hle.symm) hne
    | cons a b => rfl
  have c0 : (decide (k < -(2 ^ 63)) || decide (k ≥ 2 ^ 63)) = false := by
    rw [decide_eq_false (by omega), decide_eq_false (by omega)] <;> rfl
  have c1 : (its.toArray.isEmpty || k == 1) = false := by
    rw [hi, Bool.false_or]
    exact beq_eq_false_iff_ne.mpr (by omega)
  have c2 : (decide (k ≤ 0) || its.toArray.isEmpty) = true := by
    rw [decide_eq_true h2]
    rfl
  refine wpAny_binaryOp_repeat_ref (T := "tuple") (U := "int") (by decide) ⟨_, ho, rfl⟩ (fun s' => typeIs_int s' k t) noFill_tuple_mul F.fills_int_mul F.slot_int_rmul repeat_tuple F.slot_int_index.lookup
    (call_meets F.slot_int_rmul (typeIs_int s k t) F.entry_int_rmul (F.args_int_rmul_2 _ _) (int_rmul_tuple k t l its.toArray n dd sl)
      ⟨ho, rfl, ⟨_, ho, rfl⟩, call_meets F.slot_tuple_mul ⟨_, ho, rfl⟩ F.entry_tuple_mul (F.args_tuple_mul_2 _ _) (tup_mul_none l its.toArray n dd sl k t c0 c1 c2) ⟨ho, ?_⟩⟩)
  refine ⟨.ref s.heap.objs.size, _, I.laid (t' := s.toks) (o := .tup []) (fun b ob q => Heap.get?_push_of_some _ q) (Nat.le_refl _) ?_, rfl, q _ (I.hok.fresh (Nat.le_refl _))⟩
  exact ⟨by rw [sizeLine_eq]; exact Nat.zero_le _, _, .nil, IsTup.new _ _⟩
end
end LX

set_option Elab.async false
set_option linter.all false
set_option maxRecDepth 100000
/-! LxCore: values, heap, results, the IR and its step. -/
namespace LX
open PySem (Str Operator CmpOp PyData)

/-- a value: tuples whole; tl: a list that is never written; fl: one of the module, or handed in; ref: a list that is written to -/
inductive D where
  | non | bl (b : Bool) | int (i : Int) | str (s : List Nat) | tup (xs : List D) | tl (xs : List D) | fl (xs : List D) | ref (n : Nat) | edic
inductive MO where
  | lst (xs : List D)
abbrev MH := List MO
abbrev Flds := List (Str × D)
abbrev Env := List (Option D)

inductive Res (α : Type) where
  | ok (a : α) (M : MH) | exn (c : Nat) (fs : Flds) (M : MH) | stuck
/-- how a statement ends -/
inductive SRes where
  | nx (r : Env) (M : MH) | rt (d : D) (M : MH) | bk (r : Env) (M : MH) | ct (r : Env) (M : MH)
  | exn (c : Nat) (fs : Flds) (r : Env) (M : MH) | stuck

def Res.bind {α β : Type} (r : Res α) (k : α → MH → Res β) : Res β :=
  match r with
  | .ok a M => k a M
  | .exn c fs M => .exn c fs M
  | .stuck => .stuck
/-- an expression within a statement -/
def Res.sbind {α : Type} (r : Res α) (ρ : Env) (k : α → MH → SRes) : SRes :=
  match r with
  | .ok a M => k a M
  | .exn c fs M => .exn c fs ρ M
  | .stuck => .stuck
def SRes.sbind (r : SRes) (k : Env → MH → SRes) : SRes :=
  match r with
  | .nx ρ M => k ρ M
  | r => r
def ofO {α : Type} (o : Option α) (M : MH) : Res α :=
  match o with
  | some a => .ok a M
  | none => .stuck

inductive Kind where
  | int | str | tuple | list | bool
  deriving DecidableEq
/-- built-in functions by value -/
inductive Bf where
  | len | abs | int | max2 | min2 | maxL | minL | sum | sorted | list | tuple | str
  deriving DecidableEq
inductive Mt where
  | append | pop0 | pop1 | extend | join
  deriving DecidableEq
/-- a text's methods with one text -/
inductive Sm where
  | split | strip | starts | ends
  deriving DecidableEq
/-- a target of a loop: a slot, or a tuple of slots -/
inductive G where
  | one (i : Nat) | tup (is : List Nat)

inductive E where
  | var (i : Nat)
  | con (d : D)
  | tup (es : List E)
  | lst (m : Bool) (es : List E)
  | bin (m : Bool) (o : Operator) (a b : E)
  | neg (a : E)
  | cmp (o : CmpOp) (a b : E)
  | chain (o p : CmpOp) (a b c : E)
  | and (a b : E)
  | or (a b : E)
  | not (a : E)
  | ite (c a b : E)
  | truth (a : E)
  | call (f : Nat) (es : List E)
  | fn (m : Bool) (b : Bf) (es : List E)
  | meth (m : Mt) (o : E) (es : List E)
  | ix (a i : E)
  | cut (m : Bool) (a : E) (lo hi : Option E)
  | rev (m : Bool) (a : E)
  | lc (m : Bool) (own : List Nat) (tg : G) (it : E) (c : Option E) (e : E)
  | lrng (m : Bool) (a : E)
  | srts (a : E)
  | stp (a : E) (lo : Option E)
  | lower (a : E)
  | lset (a : E)
  | hcall (q : Nat)
  | callk (f n : Nat) (pm : List Nat) (es : List E)
  | rng1 (a : E)
  | rng2 (a b : E)
  | rng3 (a b d : E)
  | zip (a b : E)
  | isi (ks : List Kind) (e : E)
  | xat (f : Str)
  | xisi (cs : List Nat)
  | sm (m : Bool) (k : Sm) (a b : E)
  | call0 (f : Nat)
  | edic
  | bad
  | tget (kvs : List (List Nat × D)) (a b : E)
inductive S where
  | expr (e : E) | ret (e : E) | retN | pass | brk | cont
  | set (i : Nat) (e : E)
  | unp (is : List Nat) (e : E)
  | unl (is : List Nat) (e : E)
  | par (i j : Nat) (a b : E)
  | par3 (i j k : Nat) (a b e : E)
  | put (o i e : E)
  | aug (i : Nat) (o : Operator) (e : E)
  | ite (c : E) (a b : List S)
  | wh (c : E) (b : List S)
  | for (tg : G) (it : E) (b : List S)
  | raise (c : Nat) (es : List E)
  | try (b : List S) (hs : List (Nat × Option Nat × List S))

/-- a def: how many parameters, slots, its body; fz: what it made is let go at its end -/
structure Fn where
  np : Nat
  ns : Nat
  body : List S
  fz : Bool
/-- the exception classes: their fields in sequence, their own class's ancestors (numbers, itself among them) -/
structure Xc where
  flds : List Str
  up : List Nat
structure Pg where
  fns : List Fn
  xcs : List Xc
  live : Nat
  qns : List (Nat × List S)

/-! ### values -/
def lim : Nat := 16777216
mutual
def D.und (n : Nat) : D → Bool
  | .tup xs => D.undAll n xs
  | .tl xs => D.undAll n xs
  | .fl xs => D.undAll n xs
  | .ref k => decide (k < n)
  | _ => true
def D.undAll (n : Nat) : List D → Bool
  | [] => true
  | x :: xs => D.und n x && D.undAll n xs
end
def MO.und (n : Nat) : MO → Bool
  | .lst xs => D.undAll n xs
def MH.und (n : Nat) (M : MH) : Bool := M.all (MO.und n)
mutual
def toPy : D → Option PyData
  | .non => some .none
  | .bl b => some (.bool b)
  | .int i => some (.int i)
  | .str s => some (.str ⟨s.toArray⟩)
  | .tup xs => (toPys xs).map .tuple
  | .tl xs => (toPys xs).map .list
  | .fl xs => (toPys xs).map .list
  | .ref _ => none
  | .edic => none
def toPys : List D → Option (List PyData)
  | [] => some []
  | x :: xs => (toPy x).bind fun d => (toPys xs).map fun ds => d :: ds
end
/-- a list that may be written to -/
def lstAt (M : MH) (n : Nat) : Option (List D) :=
  match M[n]? with
  | some (.lst xs) => some xs
  | none => none
def toPyM (M : MH) : D → Option PyData
  | .ref n => (lstAt M n).bind fun xs => (toPys xs).map .list
  | d => toPy d
/-- the items of a list or a tuple -/
def seqOf (M : MH) : D → Option (List D)
  | .tup xs => some xs
  | .tl xs => some xs
  | .fl xs => some xs
  | .ref n => lstAt M n
  | _ => none
def tlOf (M : MH) : D → Option (List D)
  | .tl xs => some xs
  | .ref n => lstAt M n
  | _ => none
def newL (m : Bool) (xs : List D) (M : MH) : Res D := if m then .ok (.ref M.length) (M ++ [.lst xs]) else .ok (.tl xs) M
def intsL : List D → Option (List Int)
  | [] => some []
  | .int i :: r => (intsL r).map fun l => i :: l
  | _ => none
def strsL : List D → Option (List (List Nat))
  | [] => some []
  | .str s :: r => (strsL r).map fun l => s :: l
  | _ => none
def flat : D → Bool
  | .non => true | .bl _ => true | .int _ => true | .str _ => true
  | _ => false
def eqFlat : D → D → Bool
  | .non, .non => true
  | .bl a, .bl b => a == b
  | .bl a, .int b => (if a then 1 else 0) == b
  | .int a, .bl b => a == (if b then 1 else 0)
  | .int a, .int b => a == b
  | .str a, .str b => a == b
  | _, _ => false
def eqGen (M : MH) (a b : D) : Option Bool :=
  (toPyM M a).bind fun d => (toPyM M b).bind fun e => if PySem.SeqAt.shaped d && PySem.SeqAt.shaped e then some (PyData.eqv d e) else none
def eqD (M : MH) (a b : D) : Option Bool :=
  match a, b with
  | .int i, .int j => some (i == j)
  | .str x, .str y => some (x == y)
  | .bl x, .bl y => some (x == y)
  | .non, .non => some true
  | .int _, .str _ => some false
  | .str _, .int _ => some false
  | .non, .int _ => some false
  | .non, .str _ => some false
  | .non, .bl _ => some false
  | .int _, .non => some false
  | .str _, .non => some false
  | .bl _, .non => some false
  | a, b => eqGen M a b
def inGen (M : MH) (a b : D) : Option Bool :=
  (toPyM M a).bind fun d => (toPyM M b).bind fun e => match e with
    | .list ds => if PySem.SeqAt.shaped d && PySem.SeqAt.shaped (.list ds) then some (ds.any fun z => PyData.eqv z d) else none
    | _ => none
def truthD (M : MH) : D → Option Bool
  | .non => some false
  | .bl b => some b
  | .int i => some (i != 0)
  | .str s => some (!s.isEmpty)
  | d => (seqOf M d).map fun xs => !xs.isEmpty
def inD (M : MH) (a b : D) : Option Bool :=
  match a, b with
  | .str [c], .str s => some (decide (c ∈ s))
  | .str a, .str s => some (!(PySem.Builtin.Str.occurrences ⟨s.toArray⟩ ⟨a.toArray⟩ 0 s.length 1).isEmpty)
  | a, b => (seqOf M b).bind fun xs => if flat a && xs.all flat then some (xs.any fun y => eqFlat y a) else inGen M a b
def isNon : D → Bool
  | .non => true
  | _ => false
def cmpD (M : MH) (o : CmpOp) (a b : D) : Option Bool :=
  match o, a, b with
  | .Eq, a, b => eqD M a b
  | .NotEq, a, b => (eqD M a b).map not
  | .Lt, .int i, .int j => some (decide (i < j))
  | .LtE, .int i, .int j => some (decide (i ≤ j))
  | .Gt, .int i, .int j => some (decide (j < i))
  | .GtE, .int i, .int j => some (decide (j ≤ i))
  | .Lt, .str x, .str y => some (decide (x < y))
  | .In, a, b => inD M a b
  | .NotIn, a, b => (inD M a b).map not
  | .Is, a, .non => some (isNon a)
  | .IsNot, a, .non => some (!isNon a)
  | _, _, _ => none
def fits (i : Int) : Bool := decide (-(2 ^ 62) ≤ i) && decide (i < 2 ^ 62)
def smallI (i : Int) : Bool := decide (-(2 ^ 64) < i) && decide (i < 2 ^ 64)
/-- numbers of no more than ten thousand bits -/
def bigI (i j : Int) : Bool := decide (i.natAbs.log2 < 10000) && decide (j.natAbs.log2 < 10000)
def binD (m : Bool) (M : MH) (o : Operator) (a b : D) : Res D :=
  match o, a, b with
  | .Add, .int i, .int j => .ok (.int (i + j)) M
  | .Sub, .int i, .int j => .ok (.int (i - j)) M
  | .Mult, .int i, .int j => if smallI i || smallI j then .ok (.int (i * j)) M else if bigI i j then .ok (.int (i * j)) M else .stuck
  | .FloorDiv, .int i, .int j => if decide (j ≠ 0) && decide (j.natAbs < 1073741824) then .ok (.int (i.fdiv j)) M else .stuck
  | .Mod, .int i, .int j => if j ≠ 0 then .ok (.int (i.fmod j)) M else .stuck
  | .Pow, .int i, .int j => if decide (0 ≤ j) && decide (j ≤ 1000000) && decide (i.natAbs < 2 ^ 64) then .ok (.int (i ^ j.toNat)) M else .stuck
  | .LShift, .int i, .int j => if decide (0 ≤ j) && decide (j ≤ 1000000) && decide (i.natAbs < 2 ^ 64) then .ok (.int (i * 2 ^ j.toNat)) M else .stuck
  | .RShift, .int i, .int j => if 0 ≤ j then .ok (.int (i / 2 ^ j.toNat)) M else .stuck
  | .BitAnd, .int i, .int j => .ok (.int (PySem.Builtin.bitAnd i j)) M
  | .BitOr, .int i, .int j => .ok (.int (PySem.Builtin.bitOr i j)) M
  | .BitXor, .int i, .int j => .ok (.int (PySem.Builtin.bitXor i j)) M
  | .Add, .str x, .str y => if x.length + y.length ≤ lim then .ok (.str (x ++ y)) M else .stuck
  | .Add, .tup x, .tup y => if x.length + y.length ≤ lim then .ok (.tup (x ++ y)) M else .stuck
  | .Add, .tl x, b => (ofO (tlOf M b) M).bind fun y M => if x.length + y.length ≤ lim then newL m (x ++ y) M else .stuck
  | .Add, .ref n, b => (ofO (lstAt M n) M).bind fun x M => (ofO (tlOf M b) M).bind fun y M => if x.length + y.length ≤ lim then newL m (x ++ y) M else .stuck
  | .Mult, .str x, .int k => if decide (0 ≤ k) && decide (k ≤ 1000000) && decide (x.length * k.toNat ≤ lim) then .ok (.str (List.replicate k.toNat x).flatten) M else .stuck
  | .Mult, .tup x, .int k => if fits k && (x.isEmpty || decide (x.length * k.toNat ≤ 1000000)) then .ok (.tup (List.replicate k.toNat x).flatten) M else .stuck
  | .Mult, .tl x, .int k => if decide (0 ≤ k) && decide (k ≤ 1000000) && decide (x.length * k.toNat ≤ lim) then newL m (List.replicate k.toNat x).flatten M else .stuck
  | _, _, _ => .stuck
def joinS (sep : List Nat) : List (List Nat) → List Nat
  | [] => []
  | [p] => p
  | p :: q :: r => p ++ (sep ++ joinS sep (q :: r))
def maxI : List Int → Option Int
  | [] => none
  | [a] => some a
  | a :: r => (maxI r).map fun b => if b > a then b else a
def minI : List Int → Option Int
  | [] => none
  | [a] => some a
  | a :: r => (minI r).map fun b => if b < a then b else a
def digits (i : Int) : List Nat := (Str.ofString (toString i)).cps.toList
def insI (a : Int) : List Int → List Int
  | [] => [a]
  | b :: r => if a ≤ b then a :: b :: r else b :: insI a r
def sortI : List Int → List Int
  | [] => []
  | a :: r => insI a (sortI r)
def insS (a : List Nat) : List (List Nat) → List (List Nat)
  | [] => [a]
  | b :: r => if b < a then b :: insS a r else a :: b :: r
def sortS : List (List Nat) → List (List Nat)
  | [] => []
  | a :: r => insS a (sortS r)
def fnD (m : Bool) (M : MH) (b : Bf) (ds : List D) : Res D :=
  match b, ds with
  | .len, [.str s] => .ok (.int s.length) M
  | .len, [d] => (ofO (seqOf M d) M).bind fun xs M => .ok (.int xs.length) M
  | .abs, [.int i] => .ok (.int (if i < 0 then -i else i)) M
  | .int, [.int i] => .ok (.int i) M
  | .int, [.bl k] => .ok (.int (if k then 1 else 0)) M
  | .max2, [.int i, .int j] => .ok (.int (if j > i then j else i)) M
  | .min2, [.int i, .int j] => .ok (.int (if j < i then j else i)) M
  | .maxL, [d] => (ofO ((tlOf M d).bind intsL) M).bind fun l M => (ofO (maxI l) M).bind fun i M => .ok (.int i) M
  | .minL, [d] => (ofO ((tlOf M d).bind intsL) M).bind fun l M => (ofO (minI l) M).bind fun i M => .ok (.int i) M
  | .sum, [d] => (ofO ((tlOf M d).bind intsL) M).bind fun l M => .ok (.int l.sum) M
  | .list, [.str s] => newL m (s.map fun c => .str [c]) M
  | .list, [d] => (ofO (seqOf M d) M).bind fun xs M => newL m xs M
  | .tuple, [.str s] => .ok (.tup (s.map fun c => .str [c])) M
  | .tuple, [d] => (ofO (seqOf M d) M).bind fun xs M => .ok (.tup xs) M
  | .str, [.int i] => if decide (i.natAbs.log2 < 1920) && decide ((digits i).length ≤ lim) then .ok (.str (digits i)) M else .stuck
  | .sorted, [d] => (ofO ((tlOf M d).bind intsL) M).bind fun l M => if l.length < 64 then newL m ((sortI l).map .int) M else .stuck
  | _, _ => .stuck
def methD (M : MH) (t : Mt) (o : D) (ds : List D) : Res D :=
  match t, o, ds with
  | .append, .ref n, [d] => (ofO (lstAt M n) M).bind fun xs M => if xs.length < lim then .ok .non (M.set n (.lst (xs ++ [d]))) else .stuck
  | .pop0, .ref n, [] => (ofO (lstAt M n) M).bind fun xs M => (ofO (xs[xs.length - 1]?) M).bind fun d M => .ok d (M.set n (.lst xs.dropLast))
  | .pop1, .ref n, [.int i] => (ofO (lstAt M n) M).bind fun xs M => (ofO (if fits i then L2.ixN xs.length i else none) M).bind fun k M => (ofO (xs[k]?) M).bind fun d M => .ok d (M.set n (.lst (xs.eraseIdx k)))
  | .extend, .ref n, [b] => (ofO (lstAt M n) M).bind fun xs M => (ofO (tlOf M b) M).bind fun ys M => if xs.length + ys.length ≤ lim then .ok .non (M.set n (.lst (xs ++ ys))) else .stuck
  | .join, .str s, [d] => (ofO ((seqOf M d).bind strsL) M).bind fun l M => if (l.map List.length).sum + l.length * s.length ≤ 16777216 then .ok (.str (joinS s l)) M else .stuck
  | _, _, _ => .stuck
def recvOk (M : MH) (t : Mt) (x : D) : Bool :=
  match t, x with
  | .join, .str _ => true
  | .join, _ => false
  | _, .ref n => (lstAt M n).isSome
  | _, _ => false
def ixD (M : MH) (a i : D) : Option D :=
  match a, i with
  | .str s, .int k => (L2.atI s k).map fun c => .str [c]
  | a, .int k => (seqOf M a).bind fun xs => L2.atI xs k
  | _, _ => none
def cutL {α : Type} (xs : List α) (lo hi : Option Int) : List α := (xs.drop (HT.sIx xs.length 0 lo)).take (HT.sIx xs.length xs.length hi - HT.sIx xs.length 0 lo)
def cutD (m : Bool) (M : MH) (a : D) (lo hi : Option Int) : Res D :=
  match a with
  | .fl xs => newL m (cutL xs lo hi) M
  | .str s => .ok (.str (cutL s lo hi)) M
  | .tup xs => .ok (.tup (cutL xs lo hi)) M
  | d => (ofO (tlOf M d) M).bind fun xs M => newL m (cutL xs lo hi) M
def lo1 (c : Nat) : Nat := if 65 ≤ c ∧ c ≤ 90 then c + 32 else c
/-- s.lower(), signs below 128 alone -/
def lowD : D → Option D
  | .str s => if s.all (fun c => decide (c < 128)) && decide (s.length ≤ 5592405) then some (.str (s.map lo1)) else none
  | _ => none
/-- each once -/
def dist : List (List Nat) → List (List Nat)
  | [] => []
  | a :: r => if a ∈ r then dist r else a :: dist r
/-- every second -/
def evry {α : Type} : List α → List α
  | [] => []
  | [a] => [a]
  | a :: _ :: r => a :: evry r
def lo0 : Option Int → Nat
  | none => 0
  | some i => i.toNat
def loOk : Option Int → Bool
  | none => true
  | some i => decide (0 ≤ i)
/-- a[l::2] -/
def stpD (M : MH) (x : D) (l : Option Int) : Res D :=
  if loOk l then
    match x with
    | .str s => .ok (.str (evry (s.drop (lo0 l)))) M
    | .tup xs => .ok (.tup (evry (xs.drop (lo0 l)))) M
    | _ => .stuck
  else .stuck
def texD (M : MH) : D → Option (List (List Nat))
  | .str s => some (s.map fun c => [c])
  | x => (tlOf M x).bind strsL
def oneL : List (List Nat) → Bool
  | [] => true
  | [_] :: r => oneL r
  | _ => false
/-- texts of one sign, each once, in order -/
def srtT (l : List (List Nat)) : List (List Nat) := (sortI ((dist l).map fun s => ((s.headD 0 : Nat) : Int))).map fun i => [i.toNat]
/-- the named values in the parameters' order -/
def permL {α : Type} (pm : List Nat) (ws : List α) : List α := pm.filterMap (ws[·]?)
def revD (m : Bool) (M : MH) (a : D) : Res D :=
  match a with
  | .str s => .ok (.str s.reverse) M
  | .tup xs => .ok (.tup xs.reverse) M
  | d => (ofO (tlOf M d) M).bind fun xs M => newL m xs.reverse M
def revOk : D → Bool
  | .str _ => true
  | .tup _ => true
  | _ => false
/-- cut at each c -/
def splC (c : Nat) (acc : List Nat) : List Nat → List (List Nat)
  | [] => [acc]
  | x :: r => if x = c then acc :: splC c [] r else splC c (acc ++ [x]) r
/-- without the signs of t at both ends -/
def stripL (t s : List Nat) : List Nat := ((s.dropWhile fun c => decide (c ∈ t)).reverse.dropWhile fun c => decide (c ∈ t)).reverse
def isStrD : D → Bool
  | .str _ => true
  | _ => false
/-- a table of the module, read -/
def tgetD (kvs : List (List Nat × D)) (x z : D) : D :=
  match x with
  | .str s => (kvs.lookup s).getD z
  | _ => z
def smD (m : Bool) (k : Sm) (M : MH) (x y : D) : Res D :=
  match k, x, y with
  | .split, .str s, .str [c] => if decide (c < 256) && decide (s.length + 2 ≤ lim) then newL m ((splC c [] s).map .str) M else .stuck
  | .strip, .str s, .str t => .ok (.str (stripL t s)) M
  | .starts, .str s, .str t => .ok (.bl (s.take t.length == t)) M
  | .ends, .str s, .str t => .ok (.bl (decide (t.length ≤ s.length) && s.drop (s.length - t.length) == t)) M
  | _, _, _ => .stuck
def kindOf : D → Option Kind
  | .non => none
  | .bl _ => some .bool
  | .int _ => some .int
  | .str _ => some .str
  | .tup _ => some .tuple
  | .tl _ => some .list
  | .fl _ => some .list
  | .ref _ => some .list
  | .edic => none
def isKind (ks : List Kind) (d : D) : Bool :=
  ks.any fun k => match k, kindOf d with
    | .int, some .bool => true
    | k, some k' => decide (k = k')
    | _, none => false
def putD (M : MH) (o i v : D) : Option MH :=
  match o, i with
  | .ref n, .int k => (lstAt M n).bind fun xs => (L2.ixN xs.length k).map fun j => M.set n (.lst (xs.set j v))
  | _, _ => none
/-- x op= y at a name -/
def augD (M : MH) (o : Operator) (x y : D) : Res D :=
  match o, x, y with
  | .Add, .int i, .int j => .ok (.int (i + j)) M
  | .Sub, .int i, .int j => .ok (.int (i - j)) M
  | .Mult, .int i, .int j => if smallI i || smallI j then .ok (.int (i * j)) M else .stuck
  | .Add, .str x, .str y => if x.length + y.length ≤ lim then .ok (.str (x ++ y)) M else .stuck
  | _, _, _ => .stuck
/-- what a loop walks: its items, the list that must stay as it is -/
def itemsD (M : MH) : D → Option (List D × Option Nat)
  | .tup xs => some (xs, none)
  | .tl xs => some (xs, none)
  | .fl xs => some (xs, none)
  | .str s => some (s.map fun c => .str [c], none)
  | .ref n => (lstAt M n).map fun xs => (xs, some n)
  | _ => none
mutual
def D.same : D → D → Bool
  | .non, .non => true
  | .bl a, .bl b => a == b
  | .int a, .int b => a == b
  | .str a, .str b => a == b
  | .tup a, .tup b => D.sames a b
  | .tl a, .tl b => D.sames a b
  | .fl a, .fl b => D.sames a b
  | .ref a, .ref b => a == b
  | .edic, .edic => true
  | _, _ => false
def D.sames : List D → List D → Bool
  | [], [] => true
  | a :: as, b :: bs => D.same a b && D.sames as bs
  | _, _ => false
end
/-- the list that a loop walks is as it was -/
def stays (M : MH) (all : List D) : Option Nat → Bool
  | none => true
  | some n => match lstAt M n with
    | some xs => D.sames xs all
    | none => false
def rngL (lo : Int) (n : Nat) : List D := (List.range n).map fun (k : Nat) => D.int (lo + (k : Int))
def rng1D (d : D) : Option (List D) :=
  match d with
  | .int j => if fits j then some (rngL 0 j.toNat) else none
  | _ => none
def rngS (d : D) : Option (List D) :=
  match d with
  | .int j => if decide (-(2 ^ 62) ≤ j) && decide (j ≤ 16777216) then some (rngL 0 j.toNat) else none
  | _ => none
def rncL (lo k : Int) (n : Nat) : List D := (List.range n).map fun (j : Nat) => D.int (lo + (j : Int) * k)
def rng3D (d e f : D) : Option (List D) :=
  match d, e, f with
  | .int i, .int j, .int k => if decide (k ≠ 0) && (decide (k.natAbs < 1073741824) && (PySem.Builtin.Range.small i j k && decide (0 ≤ PySem.Builtin.Range.rangeSize i j k))) then some (rncL i k (PySem.Builtin.Range.rangeSize i j k).toNat) else none
  | _, _, _ => none
def rng2D (d e : D) : Option (List D) :=
  match d, e with
  | .int i, .int j => if fits i && fits j then some (rngL i (j - i).toNat) else none
  | _, _ => none
/-- a list that stays as it is -/
def lfOf : D → Option (List D)
  | .tl xs => some xs
  | .fl xs => some xs
  | _ => none
def zipT (xs ys : List D) : List D := (xs.zip ys).map fun p => .tup [p.1, p.2]
def zipD (a b : D) : Option (List D) :=
  match a, b with
  | .tup xs, .tup ys => some (zipT xs ys)
  | a, b => (lfOf a).bind fun xs => (lfOf b).map fun ys => zipT xs ys
def setAll : List Nat → List D → Env → Env
  | i :: is, d :: ds, ρ => setAll is ds (ρ.set i (some d))
  | _, _, ρ => ρ
def bindG : G → D → Env → Option Env
  | .one i, d, ρ => some (ρ.set i (some d))
  | .tup is, .tup ds, ρ => if is.length = ds.length then some (setAll is ds ρ) else none
  | _, _, _ => none
def wipeE (ρ : Env) : List Nat → Env
  | [] => ρ
  | v :: vs => (wipeE ρ vs).set v none
def startE (ns : Nat) (ds : List D) : Env := ds.map some ++ List.replicate (ns - ds.length) none

/-! ### the step -/
/-- the frame's constants: the calls that may still be nested, the exception that is handled -/
structure Cf where
  d : Nat
  x : Option (Nat × Flds)
structure Sys where
  e : Cf → E → Env → MH → Res D
  es : Cf → List E → Env → MH → Res (List D)
  s : Cf → S → Env → MH → SRes
  ss : Cf → List S → Env → MH → SRes
  f : Nat → Nat → List D → MH → Res D
def bot : Sys where
  e := fun _ _ _ _ => .stuck
  es := fun _ _ _ _ => .stuck
  s := fun _ _ _ _ => .stuck
  ss := fun _ _ _ _ => .stuck
  f := fun _ _ _ _ => .stuck

def noExn {α : Type} : Res α → Res α
  | .exn _ _ _ => .stuck
  | r => r
/-- a test's outcome -/
def asBl : D → Option Bool
  | .bl b => some b
  | _ => none
def tst (r : Res D) (k : Bool → MH → Res D) : Res D := r.bind fun d M => (ofO (asBl d) M).bind k
def asI : D → Option Int
  | .int i => some i
  | _ => none
def optE (s : Sys) (c : Cf) (o : Option E) (ρ : Env) (M : MH) : Res (Option Int) :=
  match o with
  | none => .ok none M
  | some e => (s.e c e ρ M).bind fun d M => (ofO (asI d) M).bind fun i M => .ok (some i) M
/-- what an expression walks -/
def itE (s : Sys) (c : Cf) (it : E) (ρ : Env) (M : MH) : Res (List D × Option Nat) :=
  match it with
  | .rng1 a => (s.e c a ρ M).bind fun x M => (ofO (rng1D x) M).bind fun l M => .ok (l, none) M
  | .rng2 a b => (s.e c a ρ M).bind fun x M => (s.e c b ρ M).bind fun y M => (ofO (rng2D x y) M).bind fun l M => .ok (l, none) M
  | .rng3 a b d => (s.e c a ρ M).bind fun x M => (s.e c b ρ M).bind fun y M => (s.e c d ρ M).bind fun z M => (ofO (rng3D x y z) M).bind fun l M => .ok (l, none) M
  | .zip a b => (s.e c a ρ M).bind fun x M => (s.e c b ρ M).bind fun y M => (ofO (zipD x y) M).bind fun l M => .ok (l, none) M
  | it => (s.e c it ρ M).bind fun d M => ofO (itemsD M d) M

def tests (s : Sys) (c : Cf) (t : Option E) (ρ : Env) (M : MH) : Res Bool :=
  match t with
  | none => .ok true M
  | some t => (s.e c t ρ M).bind fun d M => ofO (asBl d) M
/-- a comprehension's turns: ρ ahead of the target's store -/
def lcL (s : Sys) (c : Cf) (tg : G) (all : List D) (chk : Option Nat) (t : Option E) (e : E) (ρ : Env) : List D → List D → MH → Res (List D)
  | [], acc, M => if stays M all chk then .ok acc M else .stuck
  | x :: xs, acc, M => if stays M all chk then
      (ofO (bindG tg x ρ) M).bind fun ρ' M => (tests s c t ρ' M).bind fun k M =>
        if k then (s.e c e ρ' M).bind fun d M => if acc.length < lim then lcL s c tg all chk t e ρ xs (acc ++ [d]) M else .stuck
        else lcL s c tg all chk t e ρ xs acc M
    else .stuck
/-- what a def gives back -/
def hres : SRes → Res D
  | .rt d M => .ok d M
  | .nx _ M => .ok .non M
  | _ => .stuck
def stepE (P : Pg) (s : Sys) (c : Cf) (e : E) (ρ : Env) (M : MH) : Res D :=
  match e with
  | .var i => match ρ[i]? with
    | some (some d) => .ok d M
    | _ => .stuck
  | .con d => .ok d M
  | .tup es => (s.es c es ρ M).bind fun ds M => if ds.length ≤ lim then .ok (.tup ds) M else .stuck
  | .lst m es => (s.es c es ρ M).bind fun ds M => if ds.length ≤ lim then newL m ds M else .stuck
  | .bin m o a b => (s.e c a ρ M).bind fun x M => (s.e c b ρ M).bind fun y M => binD m M o x y
  | .neg a => (s.e c a ρ M).bind fun x M => (ofO (asI x) M).bind fun i M => .ok (.int (-i)) M
  | .cmp o a b => (s.e c a ρ M).bind fun x M => (s.e c b ρ M).bind fun y M => (ofO (cmpD M o x y) M).bind fun k M => .ok (.bl k) M
  | .chain o p a b e => (s.e c a ρ M).bind fun x M => (s.e c b ρ M).bind fun y M => (ofO (cmpD M o x y) M).bind fun k M =>
      if k then (s.e c e ρ M).bind fun z M => (ofO (cmpD M p y z) M).bind fun k M => .ok (.bl k) M else .ok (.bl false) M
  | .and a b => tst (s.e c a ρ M) fun k M => if k then tst (s.e c b ρ M) fun k M => .ok (.bl k) M else .ok (.bl false) M
  | .or a b => tst (s.e c a ρ M) fun k M => if k then .ok (.bl true) M else tst (s.e c b ρ M) fun k M => .ok (.bl k) M
  | .not a => tst (s.e c a ρ M) fun k M => .ok (.bl (!k)) M
  | .ite t a b => tst (s.e c t ρ M) fun k M => if k then s.e c a ρ M else s.e c b ρ M
  | .truth a => (s.e c a ρ M).bind fun x M => (ofO (truthD M x) M).bind fun k M => .ok (.bl k) M
  | .call f es => (s.es c es ρ M).bind fun ds M => s.f c.d f ds M
  | .fn m b es => (s.es c es ρ M).bind fun ds M => fnD m M b ds
  | .meth t o es => (s.e c o ρ M).bind fun x M => if recvOk M t x then (s.es c es ρ M).bind fun ds M => methD M t x ds else .stuck
  | .ix a i => (s.e c a ρ M).bind fun x M => (s.e c i ρ M).bind fun y M => ofO (ixD M x y) M
  | .cut m a lo hi => (s.e c a ρ M).bind fun x M => (optE s c lo ρ M).bind fun l M => (optE s c hi ρ M).bind fun h M => cutD m M x l h
  | .rev m a => (s.e c a ρ M).bind fun x M => revD m M x
  | .lc m own tg it t e => (itE s c it ρ M).bind fun p M => (noExn (lcL s c tg p.1 p.2 t e (wipeE ρ own) p.1 [] M)).bind fun l M => newL m l M
  | .lrng m a => (s.e c a ρ M).bind fun x M => (ofO (rngS x) M).bind fun l M => newL m l M
  | .lower a => (s.e c a ρ M).bind fun x M => (ofO (lowD x) M).bind fun d M => .ok d M
  | .lset a => (s.e c a ρ M).bind fun x M => (ofO (texD M x) M).bind fun l M => if l.length < 1000 then .ok (.int (dist l.reverse).length) M else .stuck
  | .stp a lo => (s.e c a ρ M).bind fun x M => (optE s c lo ρ M).bind fun l M => stpD M x l
  | .srts a => (s.e c a ρ M).bind fun x M => (ofO (texD M x) M).bind fun l M => if decide (l.length < 1000) && (oneL l && decide ((dist l.reverse).length < 64)) then .ok (.tl ((srtT l.reverse).map .str)) M else .stuck
  | .hcall q => match c.d, c.x, P.qns[q]? with
    | d + 1, some x, some t => hres (s.ss ⟨d, some x⟩ t.2 (List.replicate t.1 none) M)
    | _, _, _ => .stuck
  | .callk f n pm es => (s.es c es ρ M).bind fun ds M => if ds.length = n then s.f c.d f (permL pm ds) M else .stuck
  | .rng1 _ => .stuck
  | .rng2 _ _ => .stuck
  | .rng3 _ _ _ => .stuck
  | .zip _ _ => .stuck
  | .isi ks a => (s.e c a ρ M).bind fun x M => .ok (.bl (isKind ks x)) M
  | .xat f => match c.x with
    | some (_, fs) => ofO (fs.lookup f) M
    | none => .stuck
  | .xisi cs => match c.x with
    | some (k, _) => match P.xcs[k]? with
      | some x => .ok (.bl (cs.any fun j => decide (j ∈ x.up))) M
      | none => .stuck
    | none => .stuck
  | .sm m k a b => (s.e c a ρ M).bind fun x M => if isStrD x then (s.e c b ρ M).bind fun y M => smD m k M x y else .stuck
  | .call0 f => noExn (s.f c.d f [] M)
  | .edic => .ok .edic M
  | .bad => .stuck
  | .tget kvs a b => (s.e c a ρ M).bind fun x M => if isStrD x then (s.e c b ρ M).bind fun z M => .ok (tgetD kvs x z) M else .stuck
def stepEs (s : Sys) (c : Cf) (es : List E) (ρ : Env) (M : MH) : Res (List D) :=
  match es with
  | [] => .ok [] M
  | e :: es => (s.e c e ρ M).bind fun d M => (s.es c es ρ M).bind fun ds M => .ok (d :: ds) M
def zipF : List Str → List D → Flds
  | f :: fs, d :: ds => (f, d) :: zipF fs ds
  | _, _ => []
def clause (P : Pg) (k : Nat) : List (Nat × Option Nat × List S) → Option (Option Nat × List S)
  | [] => none
  | (j, n, b) :: hs => match P.xcs[k]? with
    | some x => if j ∈ x.up then some (n, b) else clause P k hs
    | none => none
def gone (n : Option Nat) (ρ : Env) : Env :=
  match n with
  | none => ρ
  | some i => ρ.set i none
def slotIn (n : Option Nat) (ρ : Env) : Bool :=
  match n with
  | none => true
  | some i => decide (i < ρ.length)
def SRes.map (f : Env → Env) : SRes → SRes
  | .nx r M => .nx (f r) M
  | .bk r M => .bk (f r) M
  | .ct r M => .ct (f r) M
  | .rt d M => .rt d M
  | .exn _ _ _ _ => .stuck
  | .stuck => .stuck
/-- a loop's turns -/
def forL (s : Sys) (c : Cf) (tg : G) (all : List D) (chk : Option Nat) (b : List S) : List D → Env → MH → SRes
  | [], ρ, M => if stays M all chk then .nx ρ M else .stuck
  | x :: xs, ρ, M => if stays M all chk then
      match bindG tg x ρ with
      | none => .stuck
      | some ρ => match s.ss c b ρ M with
        | .nx ρ M => forL s c tg all chk b xs ρ M
        | .ct ρ M => forL s c tg all chk b xs ρ M
        | .bk ρ M => .nx ρ M
        | r => r
    else .stuck
def stepS (P : Pg) (s : Sys) (c : Cf) (t : S) (ρ : Env) (M : MH) : SRes :=
  match t with
  | .expr e => (s.e c e ρ M).sbind ρ fun _ M => .nx ρ M
  | .ret e => (s.e c e ρ M).sbind ρ fun d M => .rt d M
  | .retN => .rt .non M
  | .pass => .nx ρ M
  | .brk => .bk ρ M
  | .cont => .ct ρ M
  | .set i e => (s.e c e ρ M).sbind ρ fun d M => .nx (ρ.set i (some d)) M
  | .unp is e => (s.e c e ρ M).sbind ρ fun d M => match bindG (.tup is) d ρ with
    | some ρ' => .nx ρ' M
    | none => .stuck
  | .unl is e => (s.e c e ρ M).sbind ρ fun d M => match tlOf M d with
    | some xs => if is.length = xs.length then .nx (setAll is xs ρ) M else .stuck
    | none => .stuck
  | .par i j a b => (s.e c a ρ M).sbind ρ fun x M => (s.e c b ρ M).sbind ρ fun y M => .nx ((ρ.set i (some x)).set j (some y)) M
  | .par3 i j k a b e => (s.e c a ρ M).sbind ρ fun x M => (s.e c b ρ M).sbind ρ fun y M => (s.e c e ρ M).sbind ρ fun z M => .nx (((ρ.set i (some x)).set j (some y)).set k (some z)) M
  | .put o i e => (s.e c e ρ M).sbind ρ fun v M => (s.e c o ρ M).sbind ρ fun x M => (s.e c i ρ M).sbind ρ fun y M => match putD M x y v with
    | some M => .nx ρ M
    | none => .stuck
  | .aug i o e => match ρ[i]? with
    | some (some x) => (s.e c e ρ M).sbind ρ fun y M => (augD M o x y).sbind ρ fun d M => .nx (ρ.set i (some d)) M
    | _ => .stuck
  | .ite t a b => (s.e c t ρ M).sbind ρ fun d M => match asBl d with
    | some true => s.ss c a ρ M
    | some false => s.ss c b ρ M
    | none => .stuck
  | .wh t b => (s.e c t ρ M).sbind ρ fun d M => match asBl d with
    | some true => match s.ss c b ρ M with
      | .nx ρ M => s.s c (.wh t b) ρ M
      | .ct ρ M => s.s c (.wh t b) ρ M
      | .bk ρ M => .nx ρ M
      | r => r
    | some false => .nx ρ M
    | none => .stuck
  | .for tg it b => (itE s c it ρ M).sbind ρ fun p M => forL s c tg p.1 p.2 b p.1 ρ M
  | .raise k es => (s.es c es ρ M).sbind ρ fun ds M => match P.xcs[k]? with
    | some x => if x.flds.length = ds.length then .exn k (zipF x.flds ds) ρ M else .stuck
    | none => .stuck
  | .try b hs => match s.ss c b ρ M with
    | .exn k fs ρ M => if k < P.live then match clause P k hs with
      | some (n, b) => if slotIn n ρ then (s.ss { c with x := some (k, fs) } b (gone n ρ) M).map (gone n) else .stuck
      | none => .exn k fs ρ M
      else .stuck
    | r => r
def stepSs (s : Sys) (c : Cf) (ts : List S) (ρ : Env) (M : MH) : SRes :=
  match ts with
  | [] => .nx ρ M
  | t :: ts => (s.s c t ρ M).sbind fun ρ M => s.ss c ts ρ M
/-- what a def made is let go: a list that it hands back is handed back whole -/
def freeze (n : Nat) (d : D) (M : MH) : Res D :=
  match d with
  | .ref k => if k < n then (if MH.und n (M.take n) then .ok (.ref k) (M.take n) else .stuck) else
    match lstAt M k with
    | some xs => if D.undAll n xs && MH.und n (M.take n) then .ok (.tl xs) (M.take n) else .stuck
    | none => .stuck
  | d => if D.und n d && MH.und n (M.take n) then .ok d (M.take n) else .stuck
def endF (fz : Bool) (n : Nat) (r : SRes) : Res D :=
  match r with
  | .rt d M => if fz then freeze n d M else .ok d M
  | .nx _ M => if fz then freeze n .non M else .ok .non M
  | .exn k fs _ M => if fz then (if D.undAll n (fs.map (·.2)) && MH.und n (M.take n) then .exn k fs (M.take n) else .stuck) else .exn k fs M
  | _ => .stuck
def stepF (P : Pg) (s : Sys) (d f : Nat) (ds : List D) (M : MH) : Res D :=
  match d, P.fns[f]? with
  | d + 1, some t => if ds.length = t.np then endF t.fz M.length (s.ss ⟨d, none⟩ t.body (startE t.ns ds) M) else .stuck
  | _, _ => .stuck
def step (P : Pg) (s : Sys) : Sys where
  e := stepE P s
  es := stepEs s
  s := stepS P s
  ss := stepSs s
  f := stepF P s
def sys (P : Pg) : Nat → Sys
  | 0 => bot
  | n + 1 => step P (sys P n)
end LX

set_option Elab.async false
set_option linter.all false
set_option maxRecDepth 100000
/-! LxRep: how values and heaps of the IR stand for those of the hand layer. -/
namespace LX
open PySem L2
theorem lim_eq : sizeLine = lim := sizeLine_eq

/-- a list that is never written by what we know: known to the object, or of the written part -/
def SqF (K : PySem.W.Frag) (H : Hp) (a : Addr) (xs : List V) : Prop :=
  (∃ o, H a = some (.frz o (.lst xs))) ∨
    ∃ (o : Obj) (its : Array Value) (n : Nat), K.lookup a = some o ∧ o.cls = .type "list" ∧ o.dict = none ∧ o.data = .seq its n ∧ its.size ≤ sizeLine ∧ Vals xs its.toList
theorem SqF.sq {K : PySem.W.Frag} {H : Hp} {a : Addr} {xs : List V} (h : SqF K H a xs) : SqL K H a xs := by
  rcases h with h | h
  · exact .inl (.inr h)
  · exact .inr h
/-- where the lists stand that are written to; the lists that are being made and no value knows of -/
structure Bt where
  f : Nat → Addr
  p : List Addr
instance : CoeFun Bt fun _ => Nat → Addr := ⟨Bt.f⟩
section
variable (K : PySem.W.Frag) (H : Hp) (β : Bt) (N : Nat)
mutual
def Rep : D → V → Prop
  | .non, v => v = .non
  | .bl b, v => v = .bl b
  | .int i, v => v = .int i
  | .str s, v => s.length ≤ lim ∧ v = .str ⟨s.toArray⟩
  | .tup xs, v => ∃ a vs, v = .ref a ∧ SqT K H a vs ∧ Reps xs vs
  | .tl xs, v => ∃ a vs, v = .ref a ∧ H a = some (.lst vs) ∧ ((∀ n, n < N → β n ≠ a) ∧ a ∉ β.p) ∧ Reps xs vs
  | .fl xs, v => ∃ a vs, v = .ref a ∧ SqF K H a vs ∧ Reps xs vs
  | .ref n, v => n < N ∧ v = .ref (β n)
  | .edic, v => ∃ a, v = .ref a ∧ H a = some (.dK []) ∧ ((∀ n, n < N → β n ≠ a) ∧ a ∉ β.p)
def Reps : List D → List V → Prop
  | [], vs => vs = []
  | d :: ds, vs => ∃ v r, vs = v :: r ∧ Rep d v ∧ Reps ds r
end
def RepO : MO → Addr → Prop
  | .lst xs, a => ∃ vs, H a = some (.lst vs) ∧ Reps K H β N xs vs
end
/-- the heap M stands in H by β -/
structure HeapR (K : PySem.W.Frag) (H : Hp) (β : Bt) (M : MH) : Prop where
  cell : ∀ n o, M[n]? = some o → RepO K H β M.length o (β n)
  inj : ∀ m n, m < M.length → n < M.length → β m = β n → m = n
  prot : ∀ a, a ∈ β.p → H a ≠ none
/-- the names' values -/
structure EnvR (K : PySem.W.Frag) (H : Hp) (β : Bt) (N : Nat) (ρ : Env) (σ : St) : Prop where
  len : σ.length = ρ.length
  val : ∀ (i : Nat) (d : D), ρ[i]? = some (some d) → ∃ v, σ[i]? = some (some v) ∧ Rep K H β N d v
/-- from one moment to a later one -/
structure Ext (β : Bt) (N : Nat) (H : Hp) (β' : Bt) (N' : Nat) (H' : Hp) : Prop where
  le : N ≤ N'
  agree : ∀ n, n < N → β' n = β n
  fr : ∀ a o, H a = some o → (∀ n, n < N → β n ≠ a) → H' a = some o
  new : ∀ n, N ≤ n → n < N' → H (β' n) = none
  tr : ∀ a, H' a = none → H a = none
  pp : β'.p = β.p
theorem Ext.refl (β : Bt) (N : Nat) (H : Hp) : Ext β N H β N H := ⟨Nat.le_refl _, fun _ _ => rfl, fun _ _ h _ => h, fun n h1 h2 => absurd h2 (Nat.not_lt.mpr h1), fun _ h => h, rfl⟩
theorem Ext.trans {β β1 β2 : Bt} {N N1 N2 : Nat} {H H1 H2 : Hp} (e : Ext β N H β1 N1 H1) (f : Ext β1 N1 H1 β2 N2 H2) : Ext β N H β2 N2 H2 := by
  have fr1 : ∀ a o, H a = some o → (∀ n, n < N → β n ≠ a) → ∀ n, n < N1 → β1 n ≠ a := fun a o h hn n hl z => by
    by_cases hN : n < N
    · exact hn n hN ((e.agree n hN).symm.trans z)
    · have q := e.new n (Nat.le_of_not_lt hN) hl
      rw [z, h] at q
      cases q
  refine ⟨Nat.le_trans e.le f.le, fun n h => (f.agree n (Nat.lt_of_lt_of_le h e.le)).trans (e.agree n h), fun a o h hn => f.fr a o (e.fr a o h hn) (fr1 a o h hn), fun n h1 h2 => ?_, fun a h => e.tr a (f.tr a h), f.pp.trans e.pp⟩
  by_cases hN : n < N1
  · rw [f.agree n hN]
    exact e.new n h1 hN
  · exact e.tr _ (f.new n (Nat.le_of_not_lt hN) h2)
section
variable {K : PySem.W.Frag} {H H' : Hp} {β β' : Bt} {N N' : Nat} {M : MH}
theorem HeapR.ncell (h : HeapR K H β M) {a : Addr} {o : HO} (e : H a = some o) (no : ∀ vs, o ≠ .lst vs) : ∀ n, n < M.length → β n ≠ a := fun n hn z => by
  obtain ⟨m, hm⟩ : ∃ m, M[n]? = some m := ⟨_, List.getElem?_eq_getElem hn⟩
  have q := h.cell n m hm
  cases m with
  | lst xs =>
    obtain ⟨vs, q, _⟩ := q
    rw [z, e] at q
    exact no vs (Option.some.inj q)
theorem Ext.sqT (h : HeapR K H β M) (e : Ext β M.length H β' N' H') {a : Addr} {vs : List V} (q : SqT K H a vs) : SqT K H' a vs := by
  rcases q with (q | ⟨o, q⟩) | q
  · exact .inl (.inl (e.fr _ _ q (h.ncell q fun _ z => by cases z)))
  · exact .inl (.inr ⟨o, e.fr _ _ q (h.ncell q fun _ z => by cases z)⟩)
  · exact .inr q
theorem Ext.sqF (h : HeapR K H β M) (e : Ext β M.length H β' N' H') {a : Addr} {vs : List V} (q : SqF K H a vs) : SqF K H' a vs := by
  rcases q with ⟨o, q⟩ | q
  · exact .inl ⟨o, e.fr _ _ q (h.ncell q fun _ z => by cases z)⟩
  · exact .inr q
mutual
theorem Rep.mono (h : HeapR K H β M) (e : Ext β M.length H β' N' H') : ∀ {d : D} {v : V}, Rep K H β M.length d v → Rep K H' β' N' d v
  | .non, _, r => r
  | .bl _, _, r => r
  | .int _, _, r => r
  | .str _, _, r => r
  | .tup xs, v, r => by
    unfold Rep at r ⊢
    obtain ⟨a, vs, rfl, q, rs⟩ := r
    exact ⟨a, vs, rfl, e.sqT h q, Reps.mono h e rs⟩
  | .tl xs, v, r => by
    unfold Rep at r ⊢
    obtain ⟨a, vs, rfl, q, hn, rs⟩ := r
    refine ⟨a, vs, rfl, e.fr _ _ q hn.1, ⟨fun n hl z => ?_, by rw [e.pp]; exact hn.2⟩, Reps.mono h e rs⟩
    by_cases hN : n < M.length
    · exact hn.1 n hN ((e.agree n hN).symm.trans z)
    · have w := e.new n (Nat.le_of_not_lt hN) hl
      rw [z, q] at w
      cases w
  | .fl xs, v, r => by
    unfold Rep at r ⊢
    obtain ⟨a, vs, rfl, q, rs⟩ := r
    exact ⟨a, vs, rfl, e.sqF h q, Reps.mono h e rs⟩
  | .ref n, v, r => by
    unfold Rep at r ⊢
    obtain ⟨hn, rfl⟩ := r
    exact ⟨Nat.lt_of_lt_of_le hn e.le, by rw [e.agree n hn]⟩
  | .edic, v, r => by
    unfold Rep at r ⊢
    obtain ⟨a, rfl, q, hn⟩ := r
    refine ⟨a, rfl, e.fr _ _ q hn.1, ⟨fun n hl z => ?_, by rw [e.pp]; exact hn.2⟩⟩
    by_cases hN : n < M.length
    · exact hn.1 n hN ((e.agree n hN).symm.trans z)
    · have w := e.new n (Nat.le_of_not_lt hN) hl
      rw [z, q] at w
      cases w
theorem Reps.mono (h : HeapR K H β M) (e : Ext β M.length H β' N' H') : ∀ {ds : List D} {vs : List V}, Reps K H β M.length ds vs → Reps K H' β' N' ds vs
  | [], _, r => r
  | d :: ds, vs, r => by
    unfold Reps at r ⊢
    obtain ⟨v, w, rfl, r1, r2⟩ := r
    exact ⟨v, w, rfl, Rep.mono h e r1, Reps.mono h e r2⟩
end
theorem EnvR.mono {ρ : Env} {σ : St} (h : HeapR K H β M) (e : Ext β M.length H β' N' H') (r : EnvR K H β M.length ρ σ) : EnvR K H' β' N' ρ σ :=
  ⟨r.len, fun i d q => let ⟨v, q1, q2⟩ := r.val i d q; ⟨v, q1, Rep.mono h e q2⟩⟩
theorem Reps.length : ∀ {ds : List D} {vs : List V}, Reps K H β N ds vs → vs.length = ds.length
  | [], _, r => by unfold Reps at r; rw [r]; rfl
  | d :: ds, _, r => by
    unfold Reps at r
    obtain ⟨v, w, rfl, _, r2⟩ := r
    rw [List.length_cons, List.length_cons, Reps.length r2]
theorem Reps.get : ∀ {ds : List D} {vs : List V} {i : Nat} {d : D}, Reps K H β N ds vs → ds[i]? = some d → ∃ v, vs[i]? = some v ∧ Rep K H β N d v
  | [], _, _, _, _, e => by simp at e
  | x :: ds, _, 0, d, r, e => by
    unfold Reps at r
    obtain ⟨v, w, rfl, r1, _⟩ := r
    have : x = d := by simpa using e
    subst this
    exact ⟨v, rfl, r1⟩
  | x :: ds, _, i + 1, d, r, e => by
    unfold Reps at r
    obtain ⟨v, w, rfl, _, r2⟩ := r
    obtain ⟨u, q1, q2⟩ := Reps.get (i := i) r2 (by simpa using e)
    exact ⟨u, by simpa using q1, q2⟩
theorem Reps.append : ∀ {ds es : List D} {vs ws : List V}, Reps K H β N ds vs → Reps K H β N es ws → Reps K H β N (ds ++ es) (vs ++ ws)
  | [], _, _, _, r, q => by unfold Reps at r; subst r; exact q
  | x :: ds, _, _, _, r, q => by
    unfold Reps at r
    obtain ⟨v, w, rfl, r1, r2⟩ := r
    show Reps K H β N (x :: (ds ++ _)) _
    unfold Reps
    exact ⟨v, w ++ _, rfl, r1, Reps.append r2 q⟩
theorem Reps.nil : Reps K H β N [] [] := by unfold Reps; rfl
theorem Reps.cons {d : D} {ds : List D} {v : V} {vs : List V} (r : Rep K H β N d v) (q : Reps K H β N ds vs) : Reps K H β N (d :: ds) (v :: vs) := by unfold Reps; exact ⟨v, vs, rfl, r, q⟩
theorem Reps.nilI {vs : List V} (r : Reps K H β N [] vs) : vs = [] := by unfold Reps at r; exact r
theorem Reps.consI {d : D} {ds : List D} {vs : List V} (r : Reps K H β N (d :: ds) vs) : ∃ v w, vs = v :: w ∧ Rep K H β N d v ∧ Reps K H β N ds w := by unfold Reps at r; exact r
theorem Reps.one {d : D} {v : V} (r : Rep K H β N d v) : Reps K H β N [d] [v] := .cons r .nil
theorem Reps.set : ∀ {ds : List D} {vs : List V} {d : D} {v : V} (i : Nat), Reps K H β N ds vs → Rep K H β N d v → Reps K H β N (ds.set i d) (vs.set i v)
  | [], _, _, _, _, r, _ => by unfold Reps at r; subst r; exact .nil
  | x :: ds, _, d, v, 0, r, q => by
    unfold Reps at r
    obtain ⟨u, w, rfl, _, r2⟩ := r
    exact .cons q r2
  | x :: ds, _, d, v, i + 1, r, q => by
    unfold Reps at r
    obtain ⟨u, w, rfl, r1, r2⟩ := r
    exact .cons r1 (Reps.set i r2 q)
theorem Reps.take : ∀ {ds : List D} {vs : List V} (n : Nat), Reps K H β N ds vs → Reps K H β N (ds.take n) (vs.take n)
  | _, _, 0, _ => by rw [List.take_zero, List.take_zero]; exact .nil
  | [], _, n + 1, r => by unfold Reps at r; subst r; exact .nil
  | x :: ds, _, n + 1, r => by
    unfold Reps at r
    obtain ⟨u, w, rfl, r1, r2⟩ := r
    exact .cons r1 (Reps.take n r2)
theorem Reps.drop : ∀ {ds : List D} {vs : List V} (n : Nat), Reps K H β N ds vs → Reps K H β N (ds.drop n) (vs.drop n)
  | _, _, 0, r => r
  | [], _, n + 1, r => by unfold Reps at r; subst r; exact .nil
  | x :: ds, _, n + 1, r => by
    unfold Reps at r
    obtain ⟨u, w, rfl, r1, r2⟩ := r
    exact Reps.drop n r2
theorem Reps.reverse : ∀ {ds : List D} {vs : List V}, Reps K H β N ds vs → Reps K H β N ds.reverse vs.reverse
  | [], _, r => by unfold Reps at r; subst r; exact .nil
  | x :: ds, _, r => by
    unfold Reps at r
    obtain ⟨u, w, rfl, r1, r2⟩ := r
    rw [List.reverse_cons, List.reverse_cons]
    exact (Reps.reverse r2).append (.one r1)
theorem Reps.dropLast {ds : List D} {vs : List V} (r : Reps K H β N ds vs) : Reps K H β N ds.dropLast vs.dropLast := by
  rw [List.dropLast_eq_take, List.dropLast_eq_take, r.length]
  exact r.take _
theorem Reps.eraseIdx : ∀ {ds : List D} {vs : List V} (i : Nat), Reps K H β N ds vs → Reps K H β N (ds.eraseIdx i) (vs.eraseIdx i)
  | [], _, _, r => by unfold Reps at r; subst r; exact .nil
  | x :: ds, _, 0, r => by
    unfold Reps at r
    obtain ⟨u, w, rfl, r1, r2⟩ := r
    exact r2
  | x :: ds, _, i + 1, r => by
    unfold Reps at r
    obtain ⟨u, w, rfl, r1, r2⟩ := r
    exact .cons r1 (Reps.eraseIdx i r2)
theorem Reps.rep {ds : List D} {vs : List V} (r : Reps K H β N ds vs) : ∀ k : Nat, Reps K H β N (List.replicate k ds).flatten (List.replicate k vs).flatten
  | 0 => .nil
  | k + 1 => by
    rw [List.replicate_succ, List.replicate_succ, List.flatten_cons, List.flatten_cons]
    exact r.append (Reps.rep r k)
/-- the next place of β -/
def ext1 (β : Bt) (N : Nat) (p : Addr) : Bt := ⟨fun n => if n = N then p else β n, β.p⟩
theorem ext1_at (β : Bt) (N : Nat) (p : Addr) : ext1 β N p N = p := if_pos rfl
theorem ext1_lt {n : Nat} (p : Addr) (h : n < N) : ext1 β N p n = β n := if_neg (Nat.ne_of_lt h)
/-- a new object that is not followed as a list to be written -/
theorem Ext.fresh {p : Addr} {o : HO} (hp : H p = none) : Ext β N H β N (upd H p o) :=
  ⟨Nat.le_refl _, fun _ _ => rfl, fun a u h _ => by rw [upd_ne (ne_of_none h hp)]; exact h, fun n h1 h2 => absurd h2 (Nat.not_lt.mpr h1), fun a h => by
    by_cases z : a = p
    · rw [z]; exact hp
    · rw [upd_ne z] at h; exact h, rfl⟩
/-- a new list to be written to -/
theorem Ext.cell {p : Addr} {o : HO} (hp : H p = none) : Ext β N H (ext1 β N p) (N + 1) (upd H p o) :=
  ⟨Nat.le_succ _, fun n h => ext1_lt p h, fun a u h _ => by rw [upd_ne (ne_of_none h hp)]; exact h, fun n h1 h2 => by
    have : n = N := by omega
    subst this
    rw [ext1_at]; exact hp, fun a h => by
    by_cases z : a = p
    · rw [z]; exact hp
    · rw [upd_ne z] at h; exact h, rfl⟩
theorem upd_some {H : Hp} {p a : Addr} {o : HO} (h : H a ≠ none) : upd H p o a ≠ none := by
  by_cases z : a = p
  · rw [z, upd_same]; simp
  · rw [upd_ne z]; exact h
theorem HeapR.lt_of (h : HeapR K H β M) {n : Nat} (hn : n < M.length) : ∃ vs, H (β n) = some (.lst vs) := by
  have q := h.cell n _ (List.getElem?_eq_getElem hn)
  cases e : M[n] with
  | lst xs =>
    rw [e] at q
    obtain ⟨vs, q, _⟩ := q
    exact ⟨vs, q⟩
theorem HeapR.fresh {p : Addr} {o : HO} (h : HeapR K H β M) (hp : H p = none) : HeapR K (upd H p o) β M where
  cell := fun n m e => by
    have q := h.cell n m e
    cases m with
    | lst xs =>
      obtain ⟨vs, q, r⟩ := q
      exact ⟨vs, by rw [upd_ne (ne_of_none q hp)]; exact q, Reps.mono h (Ext.fresh hp) r⟩
  inj := h.inj
  prot := fun a ha => upd_some (h.prot a ha)
theorem HeapR.cell1 {p : Addr} {xs : List D} {vs : List V} (h : HeapR K H β M) (hp : H p = none) (r : Reps K H β M.length xs vs) : HeapR K (upd H p (.lst vs)) (ext1 β M.length p) (M ++ [.lst xs]) where
  prot := fun a ha => upd_some (h.prot a ha)
  cell := fun n m e => by
    have hl : (M ++ [MO.lst xs]).length = M.length + 1 := by simp
    rw [hl]
    by_cases hn : n < M.length
    · rw [List.getElem?_append_left hn] at e
      have q := h.cell n m e
      cases m with
      | lst ys =>
        obtain ⟨ws, q, r'⟩ := q
        rw [ext1_lt p hn]
        exact ⟨ws, by rw [upd_ne (ne_of_none q hp)]; exact q, Reps.mono h (Ext.cell hp) r'⟩
    · have hz : n < (M ++ [MO.lst xs]).length := (List.getElem?_eq_some_iff.mp e).1
      have en : n = M.length := by omega
      subst en
      rw [List.getElem?_append_right (Nat.le_refl _), Nat.sub_self] at e
      have em : MO.lst xs = m := by simpa using e
      subst em
      rw [ext1_at]
      exact ⟨vs, upd_same, Reps.mono h (Ext.cell hp) r⟩
  inj := fun m n hm hn e => by
    have hl : (M ++ [MO.lst xs]).length = M.length + 1 := by simp
    rw [hl] at hm hn
    have no : ∀ k, k < M.length → β k ≠ p := fun k hk z => by
      obtain ⟨ws, q⟩ := h.lt_of hk
      rw [z, hp] at q
      cases q
    by_cases h1 : m < M.length
    · by_cases h2 : n < M.length
      · rw [ext1_lt p h1, ext1_lt p h2] at e
        exact h.inj m n h1 h2 e
      · have en : n = M.length := by omega
        subst en
        rw [ext1_lt p h1, ext1_at] at e
        exact absurd e (no m h1)
    · have em : m = M.length := by omega
      subst em
      by_cases h2 : n < M.length
      · rw [ext1_lt p h2, ext1_at] at e
        exact absurd e.symm (no n h2)
      · omega
/-- a list is written to -/
theorem Ext.write {n : Nat} {o : HO} (hn : n < N) (ht : H (β n) ≠ none) : Ext β N H β N (upd H (β n) o) :=
  ⟨Nat.le_refl _, fun _ _ => rfl, fun a u h hno => by rw [upd_ne (Ne.symm (hno n hn))]; exact h, fun n h1 h2 => absurd h2 (Nat.not_lt.mpr h1), fun a h => by
    by_cases z : a = β n
    · rw [z, upd_same] at h; cases h
    · rw [upd_ne z] at h; exact h, rfl⟩
theorem HeapR.write {n : Nat} {xs : List D} {vs : List V} (h : HeapR K H β M) (hn : n < M.length) (r : Reps K H β M.length xs vs) : HeapR K (upd H (β n) (.lst vs)) β (M.set n (.lst xs)) where
  prot := fun a ha => upd_some (h.prot a ha)
  cell := fun m o e => by
    have ht : H (β n) ≠ none := by obtain ⟨ws, q⟩ := h.lt_of hn; rw [q]; simp
    rw [List.length_set]
    by_cases hm : n = m
    · subst hm
      rw [List.getElem?_set_self hn] at e
      have eo : MO.lst xs = o := Option.some.inj e
      subst eo
      exact ⟨vs, upd_same, Reps.mono h (Ext.write hn ht) r⟩
    · rw [List.getElem?_set_ne hm] at e
      have q := h.cell m o e
      have hm' : m < M.length := (List.getElem?_eq_some_iff.mp e).1
      cases o with
      | lst ys =>
        obtain ⟨ws, q, r'⟩ := q
        exact ⟨ws, by rw [upd_ne (fun z => hm (h.inj m n hm' hn z).symm)]; exact q, Reps.mono h (Ext.write hn ht) r'⟩
  inj := fun m k hm hk e => by
    rw [List.length_set] at hm hk
    exact h.inj m k hm hk e
theorem lstAt_get {n : Nat} {xs : List D} (e : lstAt M n = some xs) : M[n]? = some (.lst xs) := by
  unfold lstAt at e
  cases q : M[n]? with
  | none => rw [q] at e; cases e
  | some o =>
    cases o with
    | lst ys =>
      rw [q] at e
      have : ys = xs := Option.some.inj e
      rw [this]
theorem HeapR.lst (h : HeapR K H β M) {n : Nat} {xs : List D} (e : lstAt M n = some xs) : n < M.length ∧ ∃ vs, H (β n) = some (.lst vs) ∧ Reps K H β M.length xs vs := by
  have q := lstAt_get e
  exact ⟨(List.getElem?_eq_some_iff.mp q).1, h.cell n _ q⟩
end
end LX

set_option Elab.async false
set_option linter.all false
set_option maxRecDepth 100000
set_option maxHeartbeats 2000000
/-! LxPrim: the operations by value. -/
namespace LX
open PySem L2 PyProof.Rows

/-- an outcome and what is wanted of it -/
def Post {α A : Type} (K : PySem.W.Frag) (W : WX) (xa : Nat → Addr) (R : Hp → Bt → Nat → α → A → Prop) (σ : L2.St) (H : Hp) (β : Bt) (N : Nat) (r : Res α) (Q : A → Hp → Prop) : Prop :=
  match r with
  | .ok d M' => ∀ β' H' v, Ext β N H β' M'.length H' → HeapR K H' β' M' → R H' β' M'.length d v → Q v H'
  | .exn c fs M' => ∀ β' H' dx fvs, Ext β N H β' M'.length H' → HeapR K H' β' M' → H' dx = some (.xd fvs) → (∀ f d, fs.lookup f = some d → ∃ v, fvs.lookup f = some v ∧ Rep K H' β' M'.length d v) → W (.ref (xa c)) (some dx) σ H'
  | .stuck => False
/-- values, lists of values, plain things -/
abbrev RD (K : PySem.W.Frag) : Hp → Bt → Nat → D → V → Prop := fun H β N d v => Rep K H β N d v
abbrev RDs (K : PySem.W.Frag) : Hp → Bt → Nat → List D → List V → Prop := fun H β N d v => Reps K H β N d v
abbrev RP {α : Type} : Hp → Bt → Nat → α → α → Prop := fun _ _ _ d v => d = v
section
variable {K : PySem.W.Frag} {W : WX} {xa : Nat → Addr} {σ : L2.St} {H : Hp} {β : Bt} {N : Nat} {M : MH}
theorem Post.bind {α γ A C : Type} {R : Hp → Bt → Nat → α → A → Prop} {R' : Hp → Bt → Nat → γ → C → Prop} {r : Res α} {k : α → MH → Res γ} {Q : C → Hp → Prop}
    (h : Post K W xa R' σ H β N (r.bind k) Q) : Post K W xa R σ H β N r fun a H1 => ∃ β1 M1 x, Ext β N H β1 M1.length H1 ∧ HeapR K H1 β1 M1 ∧ R H1 β1 M1.length x a ∧ Post K W xa R' σ H1 β1 M1.length (k x M1) Q := by
  cases r with
  | ok x M1 =>
    intro β1 H1 v e hp rv
    refine ⟨β1, M1, x, e, hp, rv, ?_⟩
    have h' : Post K W xa R' σ H β N (k x M1) Q := h
    cases q : k x M1 with
    | ok y M2 =>
      rw [q] at h'
      exact fun β2 H2 w e2 hp2 r2 => h' β2 H2 w (e.trans e2) hp2 r2
    | exn c fs M2 =>
      rw [q] at h'
      exact fun β2 H2 dx fvs e2 hp2 a b => h' β2 H2 dx fvs (e.trans e2) hp2 a b
    | stuck =>
      rw [q] at h'
      exact h'
  | exn c fs M1 => exact h
  | stuck => exact h
theorem Post.ofO {α γ C : Type} {R' : Hp → Bt → Nat → γ → C → Prop} {o : Option α} {M : MH} {k : α → MH → Res γ} {Q : C → Hp → Prop} (h : Post K W xa R' σ H β N ((ofO o M).bind k) Q) :
    ∃ a, o = some a ∧ Post K W xa R' σ H β N (k a M) Q := by
  cases o with
  | none => exact h.elim
  | some a => exact ⟨a, rfl, h⟩
theorem Post.ite {γ C : Type} {R' : Hp → Bt → Nat → γ → C → Prop} {b : Prop} [Decidable b] {r : Res γ} {Q : C → Hp → Prop} (h : Post K W xa R' σ H β N (if b then r else .stuck) Q) : b ∧ Post K W xa R' σ H β N r Q := by
  by_cases hb : b
  · rw [if_pos hb] at h
    exact ⟨hb, h⟩
  · rw [if_neg hb] at h
    exact h.elim
theorem Post.okv {d : D} {v : V} {Q : VK} (hp : HeapR K H β M) (h : Post K W xa (RD K) σ H β M.length (.ok d M) Q) (r : Rep K H β M.length d v) : Q v H :=
  h β H v (Ext.refl ..) hp r
theorem Post.newL {m : Bool} {xs : List D} {vs : List V} {Q : VK} (hp : HeapR K H β M) (h : Post K W xa (RD K) σ H β M.length (newL m xs M) Q) (r : Reps K H β M.length xs vs) :
    ∀ p, H p = none → Q (.ref p) (upd H p (.lst vs)) := by
  intro p hn
  have no : ∀ n, n < M.length → β n ≠ p := fun n hl z => by
    obtain ⟨ws, q⟩ := hp.lt_of hl
    rw [z, hn] at q
    cases q
  cases m with
  | true =>
    have h' : Post K W xa (RD K) σ H β M.length (.ok (.ref M.length) (M ++ [.lst xs])) Q := h
    have hl : (M ++ [MO.lst xs]).length = M.length + 1 := by simp
    refine h' (ext1 β M.length p) _ _ ?_ (hp.cell1 hn r) ?_
    · rw [hl]; exact Ext.cell hn
    · show Rep K _ _ _ (D.ref M.length) _
      unfold Rep
      exact ⟨by rw [hl]; exact Nat.lt_succ_self _, by rw [ext1_at]⟩
  | false =>
    have h' : Post K W xa (RD K) σ H β M.length (.ok (.tl xs) M) Q := h
    refine h' β _ _ (Ext.fresh hn) (hp.fresh hn) ?_
    show Rep K _ _ _ (D.tl xs) _
    unfold Rep
    exact ⟨p, vs, rfl, upd_same, ⟨no, fun z => hp.prot p z hn⟩, Reps.mono hp (Ext.fresh hn) r⟩
theorem Post.edic {Q : VK} (hp : HeapR K H β M) (h : Post K W xa (RD K) σ H β M.length (.ok .edic M) Q) : ∀ p, H p = none → Q (.ref p) (upd H p (.dK [])) := by
  intro p hn
  have no : ∀ n, n < M.length → β n ≠ p := fun n hl z => by
    obtain ⟨ws, q⟩ := hp.lt_of hl
    rw [z, hn] at q
    cases q
  refine h β _ _ (Ext.fresh hn) (hp.fresh hn) ?_
  show Rep K _ _ _ D.edic _
  unfold Rep
  exact ⟨p, rfl, upd_same, ⟨no, fun z => hp.prot p z hn⟩⟩
theorem Post.tup {xs : List D} {vs : List V} {Q : VK} (hp : HeapR K H β M) (h : Post K W xa (RD K) σ H β M.length (.ok (.tup xs) M) Q) (r : Reps K H β M.length xs vs) :
    ∀ p, H p = none → Q (.ref p) (upd H p (.tup vs)) := by
  intro p hn
  refine h β _ _ (Ext.fresh hn) (hp.fresh hn) ?_
  show Rep K _ _ _ (D.tup xs) _
  unfold Rep
  exact ⟨p, vs, rfl, .inl (.inl upd_same), Reps.mono hp (Ext.fresh hn) r⟩
theorem Post.wr {n : Nat} {d : D} {v : V} {xs : List D} {vs : List V} {Q : VK} (hp : HeapR K H β M) (hn : n < M.length) (h : Post K W xa (RD K) σ H β M.length (.ok d (M.set n (.lst xs))) Q) (r : Reps K H β M.length xs vs) (rd : Rep K H β M.length d v) :
    Q v (upd H (β n) (.lst vs)) := by
  have ht : H (β n) ≠ none := by obtain ⟨ws, q⟩ := hp.lt_of hn; rw [q]; simp
  refine h β _ v ?_ (hp.write hn r) ?_
  · rw [List.length_set]; exact Ext.write hn ht
  · rw [List.length_set]; exact Rep.mono hp (Ext.write hn ht) rd
/-! ### what the values are -/
theorem Rep.intI {i : Int} {v : V} (r : Rep K H β N (.int i) v) : v = .int i := r
theorem Rep.tupI {xs : List D} {v : V} (r : Rep K H β N (.tup xs) v) : ∃ a vs, v = .ref a ∧ SqT K H a vs ∧ Reps K H β N xs vs := by unfold Rep at r; exact r
theorem Rep.strI {s : List Nat} {v : V} (r : Rep K H β N (.str s) v) : s.length ≤ lim ∧ v = .str ⟨s.toArray⟩ := by unfold Rep at r; exact r
theorem Rep.mkStr {s : List Nat} (h : s.length ≤ lim) : Rep K H β N (.str s) (.str ⟨s.toArray⟩) := by unfold Rep; exact ⟨h, rfl⟩
theorem Rep.tlO {d : D} {v : V} {xs : List D} (hp : HeapR K H β M) (r : Rep K H β M.length d v) (e : tlOf M d = some xs) : ∃ a vs, v = .ref a ∧ H a = some (.lst vs) ∧ Reps K H β M.length xs vs := by
  cases d with
  | tl ys =>
    have e' : ys = xs := Option.some.inj e
    subst e'
    unfold Rep at r
    obtain ⟨a, vs, h1, h2, _, h3⟩ := r
    exact ⟨a, vs, h1, h2, h3⟩
  | ref n =>
    obtain ⟨_, vs, h1, h2⟩ := hp.lst (show lstAt M n = some xs from e)
    unfold Rep at r
    exact ⟨β n, vs, r.2, h1, h2⟩
  | _ => cases e
theorem Rep.seqO {d : D} {v : V} {xs : List D} (hp : HeapR K H β M) (r : Rep K H β M.length d v) (e : seqOf M d = some xs) : ∃ a vs, v = .ref a ∧ (SqL K H a vs ∨ SqT K H a vs) ∧ Reps K H β M.length xs vs := by
  cases d with
  | tup ys =>
    have e' : ys = xs := Option.some.inj e
    subst e'
    obtain ⟨a, vs, h1, h2, h3⟩ := r.tupI
    exact ⟨a, vs, h1, .inr h2, h3⟩
  | tl ys =>
    obtain ⟨a, vs, h1, h2, h3⟩ := Rep.tlO hp r (show tlOf M (.tl ys) = some xs from e)
    exact ⟨a, vs, h1, .inl (SqL.of h2), h3⟩
  | fl ys =>
    have e' : ys = xs := Option.some.inj e
    subst e'
    unfold Rep at r
    obtain ⟨a, vs, h1, h2, h3⟩ := r
    exact ⟨a, vs, h1, .inl h2.sq, h3⟩
  | ref n =>
    obtain ⟨a, vs, h1, h2, h3⟩ := Rep.tlO hp r (show tlOf M (.ref n) = some xs from e)
    exact ⟨a, vs, h1, .inl (SqL.of h2), h3⟩
  | _ => cases e
end
/-- a two-place reading by values -/
def r2 (K : PySem.W.Frag) (W : WX) (xa : Nat → Addr) (σ : L2.St) (f : MH → D → D → Res D) : R2 := fun x y H Q => ∃ β M a b, HeapR K H β M ∧ Rep K H β M.length a x ∧ Rep K H β M.length b y ∧ Post K W xa (RD K) σ H β M.length (f M a b) Q
section
variable {X : Cx} {W : WX} {xa : Nat → Addr} {σ0 : L2.St}
theorem len_str_arr (s : List Nat) : (⟨s.toArray⟩ : Str).length = s.length := by simp [Str.length]
theorem app_str_arr (x y : List Nat) : (⟨x.toArray⟩ : Str) ++ ⟨y.toArray⟩ = ⟨(x ++ y).toArray⟩ := by
  show Str.append _ _ = _
  unfold Str.append
  simp
theorem foldl_app (x : List Nat) : ∀ (k : Nat) (acc : List Nat), (List.replicate k x.toArray).foldl (· ++ ·) acc.toArray = (acc ++ (List.replicate k x).flatten).toArray
  | 0, acc => by simp
  | k + 1, acc => by
    rw [List.replicate_succ, List.foldl_cons, List.replicate_succ, List.flatten_cons, ← List.append_assoc]
    rw [show acc.toArray ++ x.toArray = (acc ++ x).toArray by simp]
    exact foldl_app x k (acc ++ x)
theorem bin_add (m : Bool) : OpR X (binaryOp .Add) (r2 X.K W xa σ0 fun M a b => binD m M .Add a b) := by
  intro pins s σ H x y v u Q I rx ry h
  obtain ⟨β, M, a, b, hp, ra, rb, h⟩ := h
  have lists : ∀ {xs ys : List D}, tlOf M a = some xs → tlOf M b = some ys → Post X.K W xa (RD X.K) σ0 H β M.length (if xs.length + ys.length ≤ lim then newL m (xs ++ ys) M else .stuck) Q →
      wpAny (model X.prog X.w) X.A (binaryOp .Add v u) (EP X pins σ Q) X.xe s := fun {xs ys} e1 e2 h => by
    obtain ⟨hz, h⟩ := h.ite
    obtain ⟨p, vs, rfl, h1, r1⟩ := ra.tlO hp e1
    obtain ⟨q, ws, rfl, h2, r2⟩ := rb.tlO hp e2
    exact op_cat pins s σ H _ _ v u Q I rx ry ⟨p, q, vs, ws, rfl, rfl, h1, h2, by rw [r1.length, r2.length, lim_eq]; exact hz, h.newL hp (r1.append r2)⟩
  cases a with
  | int i =>
    cases b with
    | int j => exact op_add pins s σ H x y v u Q I rx ry ⟨i, j, ra, rb, h.okv hp rfl⟩
    | _ => exact h.elim
  | str z =>
    cases b with
    | str z' =>
      obtain ⟨hz, h⟩ := Post.ite (r := Res.ok (D.str (z ++ z')) M) h
      obtain ⟨_, rfl⟩ := ra.strI
      obtain ⟨_, rfl⟩ := rb.strI
      refine op_add_str pins s σ H _ _ v u Q I rx ry ⟨_, _, rfl, rfl, by rw [len_str_arr, len_str_arr, lim_eq]; exact hz, ?_⟩
      rw [app_str_arr]
      exact h.okv hp (.mkStr (by rw [List.length_append]; exact hz))
    | _ => exact h.elim
  | tup xs =>
    cases b with
    | tup ys =>
      obtain ⟨hz, h⟩ := Post.ite (r := Res.ok (D.tup (xs ++ ys)) M) h
      obtain ⟨p, vs, rfl, h1, r1⟩ := ra.tupI
      obtain ⟨q, ws, rfl, h2, r2⟩ := rb.tupI
      refine op_catA pins s σ H _ _ v u Q I rx ry ⟨p, q, vs, ws, rfl, rfl, h1, h2, by rw [r1.length, r2.length, lim_eq]; exact hz, fun e => ?_, fun _ e => ?_, fun _ _ => h.tup hp (r1.append r2)⟩
      · have e' : xs = [] := List.eq_nil_of_length_eq_zero (by rw [← r1.length, e]; rfl)
        subst e'
        exact h.okv hp rb
      · have e' : ys = [] := List.eq_nil_of_length_eq_zero (by rw [← r2.length, e]; rfl)
        subst e'
        rw [List.append_nil] at h
        exact h.okv hp ra
    | _ => exact h.elim
  | tl xs =>
    have h' : Post X.K W xa (RD X.K) σ0 H β M.length ((ofO (tlOf M b) M).bind fun y M => if xs.length + y.length ≤ lim then newL m (xs ++ y) M else .stuck) Q := by
      cases b <;> exact h
    obtain ⟨ys, e2, h2⟩ := h'.ofO
    exact lists rfl e2 h2
  | ref n =>
    have h' : Post X.K W xa (RD X.K) σ0 H β M.length ((ofO (lstAt M n) M).bind fun x M => (ofO (tlOf M b) M).bind fun y M => if x.length + y.length ≤ lim then newL m (x ++ y) M else .stuck) Q := by
      cases b <;> exact h
    obtain ⟨xs, e1, h1⟩ := h'.ofO
    obtain ⟨ys, e2, h2⟩ := h1.ofO
    exact lists e1 e2 h2
  | _ => cases b <;> exact h.elim
theorem smallI_ok {i j : Int} (h : (smallI i || smallI j) = true) : CMul i j := by
  unfold smallI at h
  simp only [Bool.or_eq_true, Bool.and_eq_true, decide_eq_true_eq] at h
  exact h
theorem log2_lt' {n k : Nat} (h : n.log2 < k) : n < 2 ^ k := by
  by_cases h0 : n = 0
  · subst h0
    exact Nat.two_pow_pos k
  · exact (Nat.log2_lt h0).mp h
theorem bigI_ok {i j : Int} (h : bigI i j = true) : CMulX i j := by
  unfold bigI at h
  rw [Bool.and_eq_true, decide_eq_true_eq, decide_eq_true_eq] at h
  exact mulx_ok (log2_lt' h.1) (log2_lt' h.2) (by decide)
/-- a tuple, many times: so long as no million is passed -/
theorem op_repT2 : OpR X (binaryOp .Mult) (fun x y H Q => ∃ l k xs, x = V.ref l ∧ y = V.int k ∧ SqT X.K H l xs ∧ xs ≠ [] ∧ 2 ≤ k ∧ xs.length * k.toNat ≤ 1000000 ∧ ∀ p, H p = none → Q (.ref p) (upd H p (.tup (List.replicate k.toNat xs).flatten))) := by
  intro pins s σ H x y v u Q I rx ry h
  obtain ⟨l, k, xs, rfl, rfl, hT, hne, h1, hz, q⟩ := h
  cases rx
  obtain ⟨t, rfl⟩ := ry
  obtain ⟨its, r, ⟨⟨cls, dd, data, sl⟩, ho, hc, n, hd⟩, hs⟩ := I.tuple hT
  simp only at hc hd
  subst hc hd
  have hle : its.length = xs.length := r.length.symm
  have hpos : 0 < xs.length := by
    cases xs with
    | nil => exact absurd rfl hne
    | cons _ _ => exact Nat.succ_pos _
  have hi : its.toArray.isEmpty = false := by
    cases its with
    | nil => rw [List.length_nil] at hle; omega
    | cons a b => rfl
  have hsz0 : its.toArray.size = xs.length := by rw [List.size_toArray, hle]
  have hk1 : k.toNat ≤ 1000000 := Nat.le_trans (Nat.le_mul_of_pos_left _ hpos) hz
  have hki : ((k.toNat : Nat) : Int) = k := by omega
  have hm : ((its.toArray.size : Nat) : Int) * k ≤ 1000000 := by
    rw [hsz0]
    have a1 : ((xs.length * k.toNat : Nat) : Int) = ((xs.length : Nat) : Int) * k := by rw [Int.natCast_mul, hki]
    omega
  have flen : (List.replicate k.toNat its).flatten.length ≤ sizeLine := by
    rw [PyProof.Rows.lm_len_rep_flat, hle, sizeLine_eq, Nat.mul_comm]
    omega
  have c0 : (decide (k < -(2 ^ 63)) || decide (k ≥ 2 ^ 63)) = false := by
    rw [decide_eq_false (by omega), decide_eq_false (by omega)] <;> rfl
  have c1 : (its.toArray.isEmpty || k == 1) = false := by
    rw [hi, Bool.false_or]
    exact beq_eq_false_iff_ne.mpr (by omega)
  have c2 : (decide (k ≤ 0) || its.toArray.isEmpty) = false := by
    rw [hi, Bool.or_false]
    exact decide_eq_false (by omega)
  have c4 : Builtin.Tuple.tupleTooMany (((its.toArray.size : Nat) : Int) * k) = false := by
    unfold Builtin.Tuple.tupleTooMany
    rw [sizeLine_eq]
    exact decide_eq_false (by omega)
  refine wpAny_binaryOp_repeat_ref (T := "tuple") (U := "int") (by decide) ⟨_, ho, rfl⟩ (fun s' => typeIs_int s' k t) noFill_tuple_mul F.fills_int_mul F.slot_int_rmul repeat_tuple F.slot_int_index.lookup
    (call_meets F.slot_int_rmul (typeIs_int s k t) F.entry_int_rmul (F.args_int_rmul_2 _ _) (int_rmul_tuple k t l its.toArray n dd sl)
      ⟨ho, rfl, ⟨_, ho, rfl⟩, call_meets F.slot_tuple_mul ⟨_, ho, rfl⟩ F.entry_tuple_mul (F.args_tuple_mul_2 _ _) (tuple_mulW l its.toArray n dd sl k t c0 c1 c2 (by omega) c4 (by rw [size_rep, List.size_toArray]; exact flen)) ⟨ho, ?_⟩⟩)
  rw [size_rep]
  refine ⟨.ref s.heap.objs.size, _, I.laid (t' := s.toks) (o := .tup (List.replicate k.toNat xs).flatten) (fun b ob q => Heap.get?_push_of_some _ q) (Nat.le_refl _) ?_, rfl, q _ (I.hok.fresh (Nat.le_refl _))⟩
  exact ⟨by rw [PyProof.Rows.lm_len_rep_flat, sizeLine_eq, Nat.mul_comm]; omega, _, r.rep k.toNat, IsTup.new _ _⟩
theorem bin_mul (m : Bool) : OpR X (binaryOp .Mult) (r2 X.K W xa σ0 fun M a b => binD m M .Mult a b) := by
  intro pins s σ H x y v u Q I rx ry h
  obtain ⟨β, M, a, b, hp, ra, rb, h⟩ := h
  cases a with
  | int i =>
    cases b with
    | int j =>
      by_cases hz : (smallI i || smallI j) = true
      · have h' : Post X.K W xa (RD X.K) σ0 H β M.length (if (smallI i || smallI j) = true then Res.ok (D.int (i * j)) M else if bigI i j = true then Res.ok (D.int (i * j)) M else .stuck) Q := h
        rw [if_pos hz] at h'
        exact op_mul pins s σ H x y v u Q I rx ry ⟨i, j, ra, rb, smallI_ok hz, h'.okv hp rfl⟩
      · have h' : Post X.K W xa (RD X.K) σ0 H β M.length (if (smallI i || smallI j) = true then Res.ok (D.int (i * j)) M else if bigI i j = true then Res.ok (D.int (i * j)) M else .stuck) Q := h
        rw [if_neg hz] at h'
        obtain ⟨hb, h'⟩ := Post.ite h'
        exact op_mulX pins s σ H x y v u Q I rx ry ⟨i, j, ra, rb, bigI_ok hb, h'.okv hp rfl⟩
    | _ => exact h.elim
  | str z =>
    cases b with
    | int k =>
      obtain ⟨hz, h⟩ := Post.ite (r := Res.ok (D.str (List.replicate k.toNat z).flatten) M) h
      rw [Bool.and_eq_true, Bool.and_eq_true] at hz
      have h0 : 0 ≤ k := of_decide_eq_true hz.1.1
      have h1 : k ≤ 1000000 := of_decide_eq_true hz.1.2
      have h2 : z.length * k.toNat ≤ lim := of_decide_eq_true hz.2
      obtain ⟨hl, rfl⟩ := ra.strI
      obtain rfl := rb.intI
      obtain ⟨t, rfl⟩ := rx
      obtain ⟨t', rfl⟩ := ry
      have hlen : (List.replicate k.toNat z).flatten.length = z.length * k.toNat := by
        rw [List.length_flatten, List.map_replicate, List.sum_replicate_nat, Nat.mul_comm]
      have q := h.okv hp (.mkStr (by rw [hlen]; exact h2))
      have hz : (⟨z.toArray⟩ : Str).length = z.length := len_str_arr z
      have hbig : (z.length : Int) * k ≤ 16777216 := by
        have : ((z.length * k.toNat : Nat) : Int) ≤ 16777216 := Int.ofNat_le.mpr h2
        rw [Int.natCast_mul, Int.toNat_of_nonneg h0] at this
        exact this
      have hk : ∀ {n : Int}, ¬ n < 1 → (0 : Int) < n := fun {n} z => by omega
      refine P.mul_str (by rw [decide_eq_false (by omega), decide_eq_false (by omega)]; rfl) (fun h3 h4 h5 => ?_) (fun h3 h4 => ?_) ?_
      · rw [hz] at h5
        have h6 := Int.lt_ediv_add_one_mul_self (2 ^ 63 - 1) (hk h3)
        have h7 : ((2 ^ 63 - 1) / k + 1) * k ≤ (z.length : Int) * k := Int.mul_le_mul_of_nonneg_right (by omega) h0
        omega
      · rw [hz]
        exact decide_eq_false (by rw [lim_eq]; exact Nat.not_lt.mpr h2)
      · by_cases h3 : k < 1
        · rw [if_pos h3]
          have e0 : k.toNat = 0 := by omega
          rw [e0] at q
          exact ⟨by decide, ⟨.str ⟨#[]⟩, H, I.tok _, ⟨_, rfl⟩, q⟩⟩
        · rw [if_neg h3]
          by_cases h4 : (k == 1 || (⟨z.toArray⟩ : Str).length == 0) = true
          · rw [if_pos h4]
            have e : (List.replicate k.toNat z).flatten = z := by
              rw [Bool.or_eq_true, beq_iff_eq, beq_iff_eq, hz] at h4
              rcases h4 with h4 | h4
              · rw [h4]; simp
              · have : z = [] := List.eq_nil_of_length_eq_zero h4
                subst this
                simp
            rw [e] at q
            exact ⟨.str ⟨z.toArray⟩, H, I, ⟨t, rfl⟩, q⟩
          · rw [if_neg h4]
            have e : (List.replicate k.toNat (⟨z.toArray⟩ : Str).cps).foldl (· ++ ·) #[] = (List.replicate k.toNat z).flatten.toArray := by
              have e := foldl_app z k.toNat []
              rw [List.nil_append] at e
              exact e
            rw [e]
            refine ⟨?_, .str ⟨(List.replicate k.toNat z).flatten.toArray⟩, H, I.tok _, ⟨_, rfl⟩, q⟩
            rw [len_str_arr, hlen, lim_eq]
            exact h2
    | _ => exact h.elim
  | tup xs =>
    cases b with
    | int k =>
      obtain ⟨hz, h⟩ := Post.ite (r := Res.ok (D.tup (List.replicate k.toNat xs).flatten) M) h
      rw [Bool.and_eq_true, Bool.or_eq_true] at hz
      obtain ⟨hf, hk⟩ := hz
      unfold fits at hf
      rw [Bool.and_eq_true, decide_eq_true_eq, decide_eq_true_eq] at hf
      obtain ⟨p, vs, rfl, h4, r1⟩ := ra.tupI
      obtain rfl := rb.intI
      by_cases he : xs = []
      · subst he
        have e1 : (List.replicate k.toNat ([] : List D)).flatten = [] := by simp
        rw [e1] at h
        have e2 : vs = [] := List.eq_nil_of_length_eq_zero r1.length
        exact op_repS pins s σ H _ _ v u Q I rx ry ⟨p, k, vs, rfl, rfl, h4, hf.1, hf.2, .inl e2, h.okv hp ra⟩
      · have hne : vs ≠ [] := fun e => he (List.eq_nil_of_length_eq_zero (by rw [← r1.length, e]; rfl))
        have hk : xs.length * k.toNat ≤ 1000000 := by
          rcases hk with hk | hk
          · exact absurd (List.isEmpty_iff.mp hk) he
          · exact of_decide_eq_true hk
        by_cases h1 : k = 1
        · subst h1
          have e1 : (List.replicate (1 : Int).toNat xs).flatten = xs := by simp
          rw [e1] at h
          exact op_repS pins s σ H _ _ v u Q I rx ry ⟨p, 1, vs, rfl, rfl, h4, hf.1, hf.2, .inr rfl, h.okv hp ra⟩
        · by_cases h0 : k ≤ 0
          · have e0 : k.toNat = 0 := by omega
            rw [e0] at h
            exact op_repZ pins s σ H _ _ v u Q I rx ry ⟨p, k, vs, rfl, rfl, h4, hne, hf.1, h0, h.tup hp Reps.nil⟩
          · exact op_repT2 pins s σ H _ _ v u Q I rx ry ⟨p, k, vs, rfl, rfl, h4, hne, by omega, by rw [r1.length]; exact hk, h.tup hp (r1.rep _)⟩
    | _ => exact h.elim
  | tl xs =>
    cases b with
    | int k =>
      obtain ⟨hz, h⟩ := Post.ite (r := LX.newL m (List.replicate k.toNat xs).flatten M) h
      rw [Bool.and_eq_true, Bool.and_eq_true] at hz
      have h0 : 0 ≤ k := of_decide_eq_true hz.1.1
      have h1 : k ≤ 1000000 := of_decide_eq_true hz.1.2
      have h2 : xs.length * k.toNat ≤ lim := of_decide_eq_true hz.2
      obtain ⟨p, vs, rfl, h4, r1⟩ := ra.tlO hp rfl
      obtain rfl := rb.intI
      exact op_rep pins s σ H _ _ v u Q I rx ry ⟨p, k, vs, rfl, rfl, h4, by omega, by omega, by rw [r1.length, lim_eq]; exact h2, h.newL hp (r1.rep _)⟩
    | _ => exact h.elim
  | _ => cases b <;> exact h.elim
theorem bin_int {o : Operator} {C : Int → Int → Prop} {g : Int → Int → Int} (rule : OpR X (binaryOp o) (rI C fun i j => .int (g i j))) (m : Bool)
    (hd : ∀ M a b Q σ H β, Post X.K W xa (RD X.K) σ H β M.length (binD m M o a b) Q → ∃ i j, a = .int i ∧ b = .int j ∧ C i j ∧ Post X.K W xa (RD X.K) σ H β M.length (.ok (.int (g i j)) M) Q) :
    OpR X (binaryOp o) (r2 X.K W xa σ0 fun M a b => binD m M o a b) := by
  intro pins s σ H x y v u Q I rx ry h
  obtain ⟨β, M, a, b, hp, ra, rb, h⟩ := h
  obtain ⟨i, j, rfl, rfl, hc, h⟩ := hd M a b Q σ0 H β h
  exact rule pins s σ H x y v u Q I rx ry ⟨i, j, ra, rb, hc, h.okv hp rfl⟩
theorem opI0_I {f : Value → Value → Sem Value} {g : Int → Int → V} (h : OpR X f (rI0 g)) : OpR X f (rI (fun _ _ => True) g) := fun pins s σ H x y v u Q I rx ry ⟨i, j, e1, e2, _, q⟩ => h pins s σ H x y v u Q I rx ry ⟨i, j, e1, e2, q⟩
theorem bin_all (m : Bool) (o : Operator) : OpR X (binaryOp o) (r2 X.K W xa σ0 fun M a b => binD m M o a b) := by
  cases o with
  | Add => exact bin_add m
  | Mult => exact bin_mul m
  | Sub =>
    exact bin_int (opI0_I op_sub) m fun M a b Q σ H β h => by
      cases a <;> cases b <;> first | exact h.elim | exact ⟨_, _, rfl, rfl, trivial, h⟩
  | FloorDiv =>
    exact bin_int op_fdivN m fun M a b Q σ H β h => by
      cases a <;> cases b <;> first
        | exact h.elim
        | (obtain ⟨hz, h⟩ := Post.ite (r := Res.ok (D.int _) M) h
           rw [Bool.and_eq_true] at hz
           exact ⟨_, _, rfl, rfl, ⟨of_decide_eq_true hz.1, of_decide_eq_true hz.2⟩, h⟩)
  | Mod =>
    exact bin_int op_modN m fun M a b Q σ H β h => by
      cases a <;> cases b <;> first
        | exact h.elim
        | (obtain ⟨hz, h⟩ := Post.ite (r := Res.ok (D.int _) M) h
           exact ⟨_, _, rfl, rfl, hz, h⟩)
  | Pow =>
    exact bin_int op_pow m fun M a b Q σ H β h => by
      cases a <;> cases b <;> first
        | exact h.elim
        | (obtain ⟨hz, h⟩ := Post.ite (r := Res.ok (D.int _) M) h
           rw [Bool.and_eq_true, Bool.and_eq_true] at hz
           exact ⟨_, _, rfl, rfl, ⟨of_decide_eq_true hz.1.1, of_decide_eq_true hz.1.2, of_decide_eq_true hz.2⟩, h⟩)
  | LShift =>
    exact bin_int op_shl m fun M a b Q σ H β h => by
      cases a <;> cases b <;> first
        | exact h.elim
        | (obtain ⟨hz, h⟩ := Post.ite (r := Res.ok (D.int _) M) h
           rw [Bool.and_eq_true, Bool.and_eq_true] at hz
           exact ⟨_, _, rfl, rfl, ⟨of_decide_eq_true hz.1.1, of_decide_eq_true hz.1.2, of_decide_eq_true hz.2⟩, h⟩)
  | RShift =>
    exact bin_int op_shr m fun M a b Q σ H β h => by
      cases a <;> cases b <;> first
        | exact h.elim
        | (obtain ⟨hz, h⟩ := Post.ite (r := Res.ok (D.int _) M) h
           exact ⟨_, _, rfl, rfl, hz, h⟩)
  | BitAnd =>
    exact bin_int (opI0_I op_and) m fun M a b Q σ H β h => by
      cases a <;> cases b <;> first | exact h.elim | exact ⟨_, _, rfl, rfl, trivial, h⟩
  | BitOr =>
    exact bin_int (opI0_I op_or) m fun M a b Q σ H β h => by
      cases a <;> cases b <;> first | exact h.elim | exact ⟨_, _, rfl, rfl, trivial, h⟩
  | BitXor =>
    exact bin_int (opI0_I op_xor) m fun M a b Q σ H β h => by
      cases a <;> cases b <;> first | exact h.elim | exact ⟨_, _, rfl, rfl, trivial, h⟩
  | _ =>
    intro pins s σ H x y v u Q I rx ry h
    obtain ⟨β, M, a, b, hp, ra, rb, h⟩ := h
    cases a <;> cases b <;> exact h.elim
end
end LX

set_option Elab.async false
set_option linter.all false
set_option maxRecDepth 100000
set_option maxHeartbeats 2000000
/-! LxPrim2: comparisons, truth. -/
namespace LX
open PySem L2 PyProof.Rows
section
variable {K : PySem.W.Frag} {H : Hp} {β : Bt} {N : Nat} {M : MH}
mutual
theorem Rep.dp : ∀ {d : D} {v : V} {p : PyData}, HeapR K H β M → Rep K H β M.length d v → toPy d = some p → Dp K H v p
  | .non, _, _, _, r, e => by
    cases e
    rw [show _ = V.non from r]
    exact .non
  | .bl b, _, _, _, r, e => by
    cases e
    rw [show _ = V.bl b from r]
    exact .bl b
  | .int i, _, _, _, r, e => by
    cases e
    rw [r.intI]
    exact .int i
  | .str s, _, _, _, r, e => by
    cases e
    rw [r.strI.2]
    exact .str _
  | .tup xs, _, _, hp, r, e => by
    obtain ⟨a, vs, rfl, q, rs⟩ := r.tupI
    have e' : (toPys xs).map PyData.tuple = some _ := e
    cases f : toPys xs with
    | none => rw [f] at e'; cases e'
    | some ds =>
      rw [f] at e'
      cases e'
      exact .tup q (Reps.dp hp rs f)
  | .tl xs, _, _, hp, r, e => by
    obtain ⟨a, vs, rfl, q, rs⟩ := r.tlO hp (show tlOf M (.tl xs) = some xs from rfl)
    have e' : (toPys xs).map PyData.list = some _ := e
    cases f : toPys xs with
    | none => rw [f] at e'; cases e'
    | some ds =>
      rw [f] at e'
      cases e'
      exact .lst (SqL.of q) (Reps.dp hp rs f)
  | .fl xs, _, _, hp, r, e => by
    unfold Rep at r
    obtain ⟨a, vs, rfl, q, rs⟩ := r
    have e' : (toPys xs).map PyData.list = some _ := e
    cases f : toPys xs with
    | none => rw [f] at e'; cases e'
    | some ds =>
      rw [f] at e'
      cases e'
      exact .lst q.sq (Reps.dp hp rs f)
  | .ref _, _, _, _, _, e => by cases e
  | .edic, _, _, _, _, e => by cases e
theorem Reps.dp : ∀ {ds : List D} {vs : List V} {ps : List PyData}, HeapR K H β M → Reps K H β M.length ds vs → toPys ds = some ps → DpAll K H vs ps
  | [], _, _, _, r, e => by
    unfold Reps at r
    subst r
    cases e
    exact .nil
  | x :: xs, _, _, hp, r, e => by
    unfold Reps at r
    obtain ⟨v, w, rfl, r1, r2⟩ := r
    have e' : ((toPy x).bind fun d => (toPys xs).map fun ds => d :: ds) = some _ := e
    cases f : toPy x with
    | none => rw [f] at e'; cases e'
    | some d =>
      rw [f] at e'
      cases g : toPys xs with
      | none => rw [g] at e'; cases e'
      | some ds =>
        rw [g] at e'
        cases e'
        exact .cons (Rep.dp hp r1 f) (Reps.dp hp r2 g)
end
theorem Rep.dpM {d : D} {v : V} {p : PyData} (hp : HeapR K H β M) (r : Rep K H β M.length d v) (e : toPyM M d = some p) : Dp K H v p := by
  cases d with
  | ref n =>
    have e' : ((lstAt M n).bind fun xs => (toPys xs).map .list) = some p := e
    cases f : lstAt M n with
    | none => rw [f] at e'; cases e'
    | some xs =>
      rw [f] at e'
      have e2 : (toPys xs).map PyData.list = some p := e'
      obtain ⟨_, vs, h1, h2⟩ := hp.lst f
      unfold Rep at r
      obtain ⟨_, rfl⟩ := r
      cases g : toPys xs with
      | none => rw [g] at e2; cases e2
      | some ds =>
        rw [g] at e2
        cases e2
        exact .lst (SqL.of h1) (Reps.dp hp h2 g)
  | _ => exact Rep.dp hp r e
theorem flat_rep {d : D} {v : V} (r : Rep K H β N d v) (f : flat d = true) : flatV v = true := by
  cases d with
  | non => rw [show v = V.non from r]; rfl
  | bl b => rw [show v = V.bl b from r]; rfl
  | int i => rw [r.intI]; rfl
  | str s => rw [r.strI.2]; rfl
  | _ => cases f
theorem eqFlat_rep {d e : D} {v u : V} (r : Rep K H β N d v) (q : Rep K H β N e u) (f : flat d = true) (g : flat e = true) : eqV v u = eqFlat d e := by
  cases d with
  | non => rw [show v = V.non from r]; cases e with
    | non => rw [show u = V.non from q]; rfl
    | bl b => rw [show u = V.bl b from q]; rfl
    | int i => rw [q.intI]; rfl
    | str s => rw [q.strI.2]; rfl
    | _ => cases g
  | bl b => rw [show v = V.bl b from r]; cases e with
    | non => rw [show u = V.non from q]; rfl
    | bl b => rw [show u = V.bl b from q]; rfl
    | int i => rw [q.intI]; rfl
    | str s => rw [q.strI.2]; rfl
    | _ => cases g
  | int i => rw [r.intI]; cases e with
    | non => rw [show u = V.non from q]; rfl
    | bl b => rw [show u = V.bl b from q]; rfl
    | int i => rw [q.intI]; rfl
    | str s => rw [q.strI.2]; rfl
    | _ => cases g
  | str s => rw [r.strI.2]; cases e with
    | non => rw [show u = V.non from q]; rfl
    | bl b => rw [show u = V.bl b from q]; rfl
    | int i => rw [q.intI]; rfl
    | str s' =>
      rw [q.strI.2]
      show ((⟨s.toArray⟩ : Str) == ⟨s'.toArray⟩) = (s == s')
      rw [Bool.eq_iff_iff]
      simp
    | _ => cases g
  | _ => cases f
theorem inV_rep {e : D} {u : V} (q : Rep K H β N e u) (g : flat e = true) : ∀ {ds : List D} {vs : List V}, Reps K H β N ds vs → ds.all flat = true → vs.all flatV = true ∧ inV u vs = ds.any fun y => eqFlat y e
  | [], _, r, _ => by
    unfold Reps at r
    subst r
    exact ⟨rfl, rfl⟩
  | x :: ds, _, r, f => by
    unfold Reps at r
    obtain ⟨v, w, rfl, r1, r2⟩ := r
    rw [List.all_cons, Bool.and_eq_true] at f
    obtain ⟨h1, h2⟩ := inV_rep q g r2 f.2
    refine ⟨?_, ?_⟩
    · rw [List.all_cons, h1, flat_rep r1 f.1]; rfl
    · show (List.any (v :: w) fun y => eqV y u) = _
      rw [List.any_cons, List.any_cons, eqFlat_rep r1 q f.1 g]
      have h3 : (w.any fun y => eqV y u) = ds.any fun y => eqFlat y e := h2
      rw [h3]
theorem isNon_rep {d : D} {v : V} (r : Rep K H β N d v) : isNon d = decide (v = V.non) := by
  cases d with
  | non => rw [show v = V.non from r]; rfl
  | bl b => rw [show v = V.bl b from r]; rfl
  | int i => rw [r.intI]; rfl
  | str s => rw [r.strI.2]; rfl
  | tup xs => obtain ⟨a, vs, rfl, _⟩ := r.tupI; rfl
  | tl xs => unfold Rep at r; obtain ⟨a, vs, rfl, _⟩ := r; rfl
  | fl xs => unfold Rep at r; obtain ⟨a, vs, rfl, _⟩ := r; rfl
  | ref n => unfold Rep at r; obtain ⟨_, rfl⟩ := r; rfl
  | edic => unfold Rep at r; obtain ⟨a, rfl, _⟩ := r; rfl
end
/-- a two-place test by values -/
def rc (K : PySem.W.Frag) (f : MH → D → D → Option Bool) : R2 := fun x y H Q => ∃ β M a b k, HeapR K H β M ∧ Rep K H β M.length a x ∧ Rep K H β M.length b y ∧ f M a b = some k ∧ Q (.bl k) H
section
variable {X : Cx}
theorem bl_eq {Q : VK} {H : Hp} {k k' : Bool} (h : Q (.bl k) H) (e : k = k') : Q (.bl k') H := e ▸ h
theorem str_beq (x y : List Nat) : ((⟨x.toArray⟩ : Str) == ⟨y.toArray⟩) = (x == y) := by
  rw [Bool.eq_iff_iff]
  simp
theorem eq_core (hu : X.A.units + 64 < cLine) (neg : Bool) : OpR X (compareOp (if neg then .NotEq else .Eq)) (rc X.K fun M a b => (eqD M a b).map fun k => xor neg k) := by
  intro pins s σ H x y v u Q I rx ry h
  obtain ⟨β, M, a, b, k0, hp, ra, rb, e, q⟩ := h
  dsimp only at e
  have scalars : ∀ k, scal x y = true → decide (x = y) = k → eqD M a b = some k → wpAny (model X.prog X.w) X.A (compareOp (if neg then .NotEq else .Eq) v u) (EP X pins σ Q) X.xe s := fun k h1 h2 h3 => by
    rw [h3] at e
    have e' : xor neg k = k0 := Option.some.inj e
    cases neg with
    | true => exact op_ne pins s σ H x y v u Q I rx ry ⟨h1, bl_eq q (by rw [h2, ← e']; simp)⟩
    | false => exact op_eq pins s σ H x y v u Q I rx ry ⟨h1, bl_eq q (by rw [h2, ← e']; simp)⟩
  have general : eqD M a b = eqGen M a b → wpAny (model X.prog X.w) X.A (compareOp (if neg then .NotEq else .Eq) v u) (EP X pins σ Q) X.xe s := fun h => by
    rw [h] at e
    have e' : (((toPyM M a).bind fun d => (toPyM M b).bind fun e => if PySem.SeqAt.shaped d && PySem.SeqAt.shaped e then some (PyData.eqv d e) else none).map fun k => xor neg k) = some k0 := e
    cases f : toPyM M a with
    | none => rw [f] at e'; cases e'
    | some d =>
      cases g : toPyM M b with
      | none => rw [f, g] at e'; cases e'
      | some d' =>
        rw [f, g] at e'
        have e2 : ((if PySem.SeqAt.shaped d && PySem.SeqAt.shaped d' then some (PyData.eqv d d') else none).map fun k => xor neg k) = some k0 := e'
        by_cases hs : (PySem.SeqAt.shaped d && PySem.SeqAt.shaped d') = true
        · rw [if_pos hs] at e2
          have e3 : xor neg (PyData.eqv d d') = k0 := Option.some.inj e2
          rw [Bool.and_eq_true] at hs
          cases neg with
          | true => exact op_neD hu pins s σ H x y v u Q I rx ry ⟨d, d', ra.dpM hp f, rb.dpM hp g, hs.1, hs.2, bl_eq q (by rw [← e3]; simp)⟩
          | false => exact op_eqD hu pins s σ H x y v u Q I rx ry ⟨d, d', ra.dpM hp f, rb.dpM hp g, hs.1, hs.2, bl_eq q (by rw [← e3]; simp)⟩
        · rw [if_neg hs] at e2
          cases e2
  cases a with
  | non =>
    have ex : x = V.non := ra
    cases b with
    | non => exact scalars true (by rw [ex, show y = V.non from rb]; rfl) (by rw [ex, show y = V.non from rb]; rfl) rfl
    | int j => exact scalars false (by rw [ex, rb.intI]; rfl) (by rw [ex, rb.intI]; rfl) rfl
    | bl j => exact scalars false (by rw [ex, show y = V.bl j from rb]; rfl) (by rw [ex, show y = V.bl j from rb]; rfl) rfl
    | str j => exact scalars false (by rw [ex, rb.strI.2]; rfl) (by rw [ex, rb.strI.2]; rfl) rfl
    | _ => exact general rfl
  | bl i =>
    have ex : x = V.bl i := ra
    cases b with
    | non => exact scalars false (by rw [ex, show y = V.non from rb]; rfl) (by rw [ex, show y = V.non from rb]; rfl) rfl
    | bl j => exact scalars (i == j) (by rw [ex, show y = V.bl j from rb]; rfl) (by rw [ex, show y = V.bl j from rb]; exact dec_bl) rfl
    | _ => exact general rfl
  | int i =>
    have ex := ra.intI
    cases b with
    | non => exact scalars false (by rw [ex, show y = V.non from rb]; rfl) (by rw [ex, show y = V.non from rb]; rfl) rfl
    | int j => exact scalars (i == j) (by rw [ex, rb.intI]; rfl) (by rw [ex, rb.intI]; exact dec_int) rfl
    | str j => exact scalars false (by rw [ex, rb.strI.2]; rfl) (by rw [ex, rb.strI.2]; rfl) rfl
    | _ => exact general rfl
  | str i =>
    have ex := ra.strI.2
    cases b with
    | non => exact scalars false (by rw [ex, show y = V.non from rb]; rfl) (by rw [ex, show y = V.non from rb]; rfl) rfl
    | int j => exact scalars false (by rw [ex, rb.intI]; rfl) (by rw [ex, rb.intI]; rfl) rfl
    | str j => exact scalars (i == j) (by rw [ex, rb.strI.2]; rfl) (by rw [ex, rb.strI.2, dec_str]; exact str_beq i j) rfl
    | _ => exact general rfl
  | _ => cases b <;> exact general rfl
theorem in_core (hu : X.A.units + 65 < cLine) (neg : Bool) : OpR X (compareOp (if neg then .NotIn else .In)) (rc X.K fun M a b => (inD M a b).map fun k => xor neg k) := by
  intro pins s σ H x y v u Q I rx ry h
  obtain ⟨β, M, a, b, k0, hp, ra, rb, e, q⟩ := h
  dsimp only at e
  have strz : ∀ (z w : List Nat) (k : Bool), a = D.str z → b = D.str w → (!(Builtin.Str.occurrences ⟨w.toArray⟩ ⟨z.toArray⟩ 0 w.length 1).isEmpty) = k → xor neg k = k0 → wpAny (model X.prog X.w) X.A (compareOp (if neg then .NotIn else .In) v u) (EP X pins σ Q) X.xe s := fun z w k ea eb hk e3 => by
    subst ea eb
    obtain ⟨_, rfl⟩ := ra.strI
    obtain ⟨_, rfl⟩ := rb.strI
    cases neg with
    | true => exact L2.op_notIn_str pins s σ H _ _ v u Q I rx ry ⟨_, _, rfl, rfl, bl_eq q (by rw [← e3, len_str_arr, hk]; simp)⟩
    | false => exact op_in_str pins s σ H _ _ v u Q I rx ry ⟨_, _, rfl, rfl, bl_eq q (by rw [← e3, len_str_arr, hk]; simp)⟩
  have seqs : inD M a b = ((seqOf M b).bind fun xs => if flat a && xs.all flat then some (xs.any fun y => eqFlat y a) else inGen M a b) → wpAny (model X.prog X.w) X.A (compareOp (if neg then .NotIn else .In) v u) (EP X pins σ Q) X.xe s := fun h => by
    rw [h] at e
    cases f : seqOf M b with
    | none => rw [f] at e; cases e
    | some xs =>
      rw [f] at e
      have e2 : ((if flat a && xs.all flat then some (xs.any fun y => eqFlat y a) else inGen M a b).map fun k => xor neg k) = some k0 := e
      by_cases hs : (flat a && xs.all flat) = true
      · rw [if_pos hs] at e2
        have e3 : xor neg (xs.any fun y => eqFlat y a) = k0 := Option.some.inj e2
        rw [Bool.and_eq_true] at hs
        obtain ⟨p, vs, rfl, h1, r1⟩ := rb.seqO hp f
        obtain ⟨h2, h3⟩ := inV_rep ra hs.1 r1 hs.2
        cases neg with
        | true => exact op_notIn_seq pins s σ H _ _ v u Q I rx ry ⟨p, vs, rfl, h1, flat_rep ra hs.1, h2, bl_eq q (by rw [← e3, ← h3]; simp)⟩
        | false => exact op_in_seq pins s σ H _ _ v u Q I rx ry ⟨p, vs, rfl, h1, flat_rep ra hs.1, h2, bl_eq q (by rw [← e3, ← h3]; simp)⟩
      · rw [if_neg hs] at e2
        have e3 : (((toPyM M a).bind fun d => (toPyM M b).bind fun e => match e with
          | .list ds => if PySem.SeqAt.shaped d && PySem.SeqAt.shaped (.list ds) then some (ds.any fun z => PyData.eqv z d) else none
          | _ => none).map fun k => xor neg k) = some k0 := e2
        cases f1 : toPyM M a with
        | none => rw [f1] at e3; cases e3
        | some d =>
          cases f2 : toPyM M b with
          | none => rw [f1, f2] at e3; cases e3
          | some d' =>
            rw [f1, f2] at e3
            cases d' with
            | list ds =>
              have e4 : ((if PySem.SeqAt.shaped d && PySem.SeqAt.shaped (.list ds) then some (ds.any fun z => PyData.eqv z d) else none).map fun k => xor neg k) = some k0 := e3
              by_cases hs2 : (PySem.SeqAt.shaped d && PySem.SeqAt.shaped (.list ds)) = true
              · rw [if_pos hs2] at e4
                have e5 : xor neg (ds.any fun z => PyData.eqv z d) = k0 := Option.some.inj e4
                rw [Bool.and_eq_true] at hs2
                cases neg with
                | true => exact op_notInD hu pins s σ H x y v u Q I rx ry ⟨d, ds, ra.dpM hp f1, rb.dpM hp f2, hs2.1, hs2.2, bl_eq q (by rw [← e5]; simp)⟩
                | false => exact op_inD hu pins s σ H x y v u Q I rx ry ⟨d, ds, ra.dpM hp f1, rb.dpM hp f2, hs2.1, hs2.2, bl_eq q (by rw [← e5]; simp)⟩
              · rw [if_neg hs2] at e4
                cases e4
            | _ => cases e3
  cases b with
  | str w =>
    cases a with
    | str z =>
      match z, ra, e, strz with
      | [c], ra, e, strz =>
        have e3 : xor neg (decide (c ∈ w)) = k0 := Option.some.inj e
        obtain ⟨_, rfl⟩ := ra.strI
        obtain ⟨_, rfl⟩ := rb.strI
        cases neg with
        | true => exact op_notIn_sign pins s σ H _ _ v u Q I rx ry ⟨c, _, rfl, rfl, bl_eq q (by rw [← e3]; simp)⟩
        | false => exact op_in_sign pins s σ H _ _ v u Q I rx ry ⟨c, _, rfl, rfl, bl_eq q (by rw [← e3]; simp)⟩
      | [], ra, e, strz => exact strz [] w _ rfl rfl rfl (Option.some.inj e)
      | c :: c' :: r, ra, e, strz => exact strz (c :: c' :: r) w _ rfl rfl rfl (Option.some.inj e)
    | _ => exact seqs rfl
  | _ =>
    cases a with
    | str z => match z, seqs with
      | [c], seqs => exact seqs rfl
      | [], seqs => exact seqs rfl
      | c :: c' :: r, seqs => exact seqs rfl
    | _ => exact seqs rfl
theorem cmp_int {f : Value → Value → Sem Value} {g : Int → Int → Bool} (rule : OpR X f (rI0 fun i j => .bl (g i j))) {o : CmpOp} (hd : ∀ M a b k, cmpD M o a b = some k → ∃ i j, a = .int i ∧ b = .int j ∧ k = g i j) :
    OpR X f (rc X.K fun M a b => cmpD M o a b) := by
  intro pins s σ H x y v u Q I rx ry h
  obtain ⟨β, M, a, b, k, hp, ra, rb, e, q⟩ := h
  obtain ⟨i, j, rfl, rfl, rfl⟩ := hd M a b k e
  exact rule pins s σ H x y v u Q I rx ry ⟨i, j, ra, rb, q⟩
theorem OpR.imp {f : Value → Value → Sem Value} {r r' : R2} (h : OpR X f r) (hi : ∀ x y H Q, r' x y H Q → r x y H Q) : OpR X f r' := fun pins s σ H x y v u Q I rx ry q => h pins s σ H x y v u Q I rx ry (hi x y H Q q)
theorem cmp_all (hu : X.A.units + 65 < cLine) (o : CmpOp) : OpR X (compareOp o) (rc X.K fun M a b => cmpD M o a b) := by
  cases o with
  | Eq => exact OpR.imp (eq_core (by omega) false) fun x y H Q ⟨β, M, a, b, k, hp, ra, rb, e, q⟩ => ⟨β, M, a, b, k, hp, ra, rb, by
      have e' : eqD M a b = some k := e
      dsimp only
      rw [e']
      simp, q⟩
  | NotEq => exact OpR.imp (eq_core (by omega) true) fun x y H Q ⟨β, M, a, b, k, hp, ra, rb, e, q⟩ => ⟨β, M, a, b, k, hp, ra, rb, by
      have e' : (eqD M a b).map not = some k := e
      dsimp only
      rw [← e']
      congr 1
      funext k
      simp, q⟩
  | In => exact OpR.imp (in_core hu false) fun x y H Q ⟨β, M, a, b, k, hp, ra, rb, e, q⟩ => ⟨β, M, a, b, k, hp, ra, rb, by
      have e' : inD M a b = some k := e
      dsimp only
      rw [e']
      simp, q⟩
  | NotIn => exact OpR.imp (in_core hu true) fun x y H Q ⟨β, M, a, b, k, hp, ra, rb, e, q⟩ => ⟨β, M, a, b, k, hp, ra, rb, by
      have e' : (inD M a b).map not = some k := e
      dsimp only
      rw [← e']
      congr 1
      funext k
      simp, q⟩
  | Lt =>
    intro pins s σ H x y v u Q I rx ry h
    obtain ⟨β, M, a, b, k, hp, ra, rb, e, q⟩ := h
    cases a with
    | int i =>
      cases b with
      | int j => exact op_lt pins s σ H x y v u Q I rx ry ⟨i, j, ra, rb, bl_eq q (Option.some.inj e).symm⟩
      | _ => cases e
    | str i =>
      cases b with
      | str j =>
        obtain ⟨_, rfl⟩ := ra.strI
        obtain ⟨_, rfl⟩ := rb.strI
        exact op_lt_str pins s σ H _ _ v u Q I rx ry ⟨_, _, rfl, rfl, bl_eq q (Option.some.inj e).symm⟩
      | _ => cases e
    | _ => cases b <;> cases e
  | LtE =>
    exact cmp_int op_le fun M a b k e => by
      cases a <;> cases b <;> first | (cases e; done) | exact ⟨_, _, rfl, rfl, (Option.some.inj e).symm⟩
  | Gt =>
    exact cmp_int op_gt fun M a b k e => by
      cases a <;> cases b <;> first | (cases e; done) | exact ⟨_, _, rfl, rfl, (Option.some.inj e).symm⟩
  | GtE =>
    exact cmp_int op_ge fun M a b k e => by
      cases a <;> cases b <;> first | (cases e; done) | exact ⟨_, _, rfl, rfl, (Option.some.inj e).symm⟩
  | Is =>
    intro pins s σ H x y v u Q I rx ry h
    obtain ⟨β, M, a, b, k, hp, ra, rb, e, q⟩ := h
    have e' : b = .non ∧ k = isNon a := by
      cases b with
      | non => cases a <;> exact ⟨rfl, (Option.some.inj e).symm⟩
      | _ => cases a <;> cases e
    obtain ⟨rfl, rfl⟩ := e'
    exact op_isN pins s σ H x y v u Q I rx ry ⟨rb, bl_eq q (isNon_rep ra)⟩
  | IsNot =>
    intro pins s σ H x y v u Q I rx ry h
    obtain ⟨β, M, a, b, k, hp, ra, rb, e, q⟩ := h
    have e' : b = .non ∧ k = !isNon a := by
      cases b with
      | non => cases a <;> exact ⟨rfl, (Option.some.inj e).symm⟩
      | _ => cases a <;> cases e
    obtain ⟨rfl, rfl⟩ := e'
    exact op_notN pins s σ H x y v u Q I rx ry ⟨rb, bl_eq q (by rw [isNon_rep ra])⟩
/-- truth -/
theorem truth_rep {K : PySem.W.Frag} {H : Hp} {β : Bt} {M : MH} {d : D} {v : V} {k : Bool} (hp : HeapR K H β M) (r : Rep K H β M.length d v) (e : truthD M d = some k) : TruV K v H k := by
  have seqs : truthD M d = (seqOf M d).map (fun xs => !xs.isEmpty) → TruV K v H k := fun h => by
    rw [h] at e
    cases f : seqOf M d with
    | none => rw [f] at e; cases e
    | some xs =>
      rw [f] at e
      have e' : (!xs.isEmpty) = k := Option.some.inj e
      obtain ⟨p, vs, rfl, h1, r1⟩ := r.seqO hp f
      have ee : k = !vs.isEmpty := by
        rw [← e']
        have := r1.length
        cases xs <;> cases vs <;> first | rfl | cases this
      rcases h1 with h1 | h1
      · exact .inl ⟨vs, h1, ee⟩
      · exact .inr (.inl ⟨vs, h1, ee⟩)
  cases d with
  | non => rw [show v = V.non from r]; exact (Option.some.inj e).symm
  | bl b => rw [show v = V.bl b from r]; exact (Option.some.inj e).symm
  | int i => rw [r.intI]; exact (Option.some.inj e).symm
  | str s =>
    obtain ⟨h1, rfl⟩ := r.strI
    refine ⟨by rw [len_str_arr, lim_eq]; exact h1, ?_⟩
    rw [← Option.some.inj e, len_str_arr]
    cases s with
    | nil => rfl
    | cons c l =>
      show true = _
      symm
      rw [bne_iff_ne]
      rw [List.length_cons]
      omega
  | _ => exact seqs rfl
end
end LX

set_option Elab.async false
set_option linter.all false
set_option maxRecDepth 100000
set_option maxHeartbeats 2000000
/-! LxPrim3: built-in functions, methods, subscripts, kinds. -/
namespace LX
open PySem L2 PyProof.Rows
/-! ### sorting -/
theorem insI_perm (a : Int) : ∀ l, (insI a l).Perm (a :: l)
  | [] => .refl _
  | b :: r => by
    unfold insI
    by_cases h : a ≤ b
    · rw [if_pos h]
    · rw [if_neg h]
      exact ((insI_perm a r).cons b).trans (.swap ..)
theorem sortI_perm : ∀ l, (sortI l).Perm l
  | [] => .refl _
  | a :: r => (insI_perm a _).trans ((sortI_perm r).cons a)
theorem insI_sorted (a : Int) : ∀ l, l.Pairwise (· ≤ ·) → (insI a l).Pairwise (· ≤ ·)
  | [], _ => by simp [insI]
  | b :: r, h => by
    unfold insI
    by_cases h1 : a ≤ b
    · rw [if_pos h1]
      refine List.pairwise_cons.mpr ⟨fun y hy => ?_, h⟩
      rcases List.mem_cons.mp hy with rfl | hy
      · exact h1
      · exact Int.le_trans h1 ((List.pairwise_cons.mp h).1 y hy)
    · rw [if_neg h1]
      refine List.pairwise_cons.mpr ⟨fun y hy => ?_, insI_sorted a r (List.pairwise_cons.mp h).2⟩
      rcases List.mem_cons.mp ((insI_perm a r).mem_iff.mp hy) with rfl | hy
      · omega
      · exact (List.pairwise_cons.mp h).1 y hy
theorem sortI_sorted : ∀ l, (sortI l).Pairwise (· ≤ ·)
  | [] => .nil
  | a :: r => insI_sorted a _ (sortI_sorted r)
theorem sort_unique {l l' : List Int} (p : l.Perm l') (h : l.Pairwise (· ≤ ·)) (h' : l'.Pairwise (· ≤ ·)) : l = l' :=
  List.Perm.eq_of_pairwise (fun a b _ _ h1 h2 => Int.le_antisymm h1 h2) h h' p
section
variable {K : PySem.W.Frag} {H : Hp} {β : Bt} {N : Nat} {M : MH}
theorem Reps.intsR : ∀ {ds : List D} {vs : List V} {l : List Int}, Reps K H β N ds vs → intsL ds = some l → vs = l.map V.int
  | [], _, _, r, e => by
    unfold Reps at r
    subst r
    cases e
    rfl
  | d :: ds, _, l, r, e => by
    unfold Reps at r
    obtain ⟨v, w, rfl, r1, r2⟩ := r
    cases d with
    | int i =>
      have e' : (intsL ds).map (fun l => i :: l) = some l := e
      cases f : intsL ds with
      | none => rw [f] at e'; cases e'
      | some l' =>
        rw [f] at e'
        cases e'
        rw [r1.intI, Reps.intsR r2 f]
        rfl
    | _ => cases e
theorem Reps.strsR : ∀ {ds : List D} {vs : List V} {l : List (List Nat)}, Reps K H β N ds vs → strsL ds = some l → vs = (l.map fun s => (⟨s.toArray⟩ : Str)).map V.str
  | [], _, _, r, e => by
    unfold Reps at r
    subst r
    cases e
    rfl
  | d :: ds, _, l, r, e => by
    unfold Reps at r
    obtain ⟨v, w, rfl, r1, r2⟩ := r
    cases d with
    | str s =>
      have e' : (strsL ds).map (fun l => s :: l) = some l := e
      cases f : strsL ds with
      | none => rw [f] at e'; cases e'
      | some l' =>
        rw [f] at e'
        cases e'
        rw [r1.strI.2, Reps.strsR r2 f]
        rfl
    | _ => cases e
theorem Reps.ofInts (l : List Int) : Reps K H β N (l.map D.int) (l.map V.int) := by
  induction l with
  | nil => exact .nil
  | cons i r ih => exact .cons (show Rep K H β N (.int i) (.int i) from rfl) ih
theorem maxI_mem : ∀ {l : List Int} {m : Int}, maxI l = some m → m ∈ l ∧ ∀ y, y ∈ l → y ≤ m
  | [], _, e => by cases e
  | [a], m, e => by
    have e' : a = m := Option.some.inj e
    subst e'
    exact ⟨by simp, fun y hy => by rw [List.mem_singleton.mp hy]; exact Int.le_refl _⟩
  | a :: b :: r, m, e => by
    have e' : (maxI (b :: r)).map (fun b => if b > a then b else a) = some m := e
    cases f : maxI (b :: r) with
    | none => rw [f] at e'; cases e'
    | some c =>
      rw [f] at e'
      have e2 : (if c > a then c else a) = m := Option.some.inj e'
      obtain ⟨h1, h2⟩ := maxI_mem f
      by_cases h : c > a
      · rw [if_pos h] at e2
        subst e2
        refine ⟨List.mem_cons_of_mem _ h1, fun y hy => ?_⟩
        rcases List.mem_cons.mp hy with rfl | hy
        · exact Int.le_of_lt h
        · exact h2 y hy
      · rw [if_neg h] at e2
        subst e2
        refine ⟨List.mem_cons_self, fun y hy => ?_⟩
        rcases List.mem_cons.mp hy with rfl | hy
        · exact Int.le_refl _
        · exact Int.le_trans (h2 y hy) (Int.not_lt.mp h)
theorem minI_mem : ∀ {l : List Int} {m : Int}, minI l = some m → m ∈ l ∧ ∀ y, y ∈ l → m ≤ y
  | [], _, e => by cases e
  | [a], m, e => by
    have e' : a = m := Option.some.inj e
    subst e'
    exact ⟨by simp, fun y hy => by rw [List.mem_singleton.mp hy]; exact Int.le_refl _⟩
  | a :: b :: r, m, e => by
    have e' : (minI (b :: r)).map (fun b => if b < a then b else a) = some m := e
    cases f : minI (b :: r) with
    | none => rw [f] at e'; cases e'
    | some c =>
      rw [f] at e'
      have e2 : (if c < a then c else a) = m := Option.some.inj e'
      obtain ⟨h1, h2⟩ := minI_mem f
      by_cases h : c < a
      · rw [if_pos h] at e2
        subst e2
        refine ⟨List.mem_cons_of_mem _ h1, fun y hy => ?_⟩
        rcases List.mem_cons.mp hy with rfl | hy
        · exact Int.le_of_lt h
        · exact h2 y hy
      · rw [if_neg h] at e2
        subst e2
        refine ⟨List.mem_cons_self, fun y hy => ?_⟩
        rcases List.mem_cons.mp hy with rfl | hy
        · exact Int.le_refl _
        · exact Int.le_trans (Int.not_lt.mp h) (h2 y hy)
theorem atI_rep {ds : List D} {vs : List V} {i : Int} {d : D} (r : Reps K H β N ds vs) (e : atI ds i = some d) : ∃ v, atI vs i = some v ∧ Rep K H β N d v := by
  unfold atI at e ⊢
  rw [r.length]
  cases f : ixN ds.length i with
  | none => rw [f] at e; cases e
  | some j =>
    rw [f] at e
    exact r.get (show ds[j]? = some d from e)
theorem cut_rep {ds : List D} {vs : List V} (r : Reps K H β N ds vs) (lo hi : Option Int) : Reps K H β N (cutL ds lo hi) (cutV vs lo hi) := by
  unfold cutL cutV
  rw [r.length]
  exact (r.drop _).take _
end
/-- the built-in's value -/
def bfV : Bf → Value
  | .len => .builtin "len" | .abs => .builtin "abs" | .int => .type "int" | .max2 => .builtin "max" | .min2 => .builtin "min" | .maxL => .builtin "max" | .minL => .builtin "min"
  | .sum => .builtin "sum" | .sorted => .builtin "sorted" | .list => .type "list" | .tuple => .type "tuple" | .str => .type "str"
theorem joinS_eq (a : List Nat) : ∀ l : List (List Nat), (Txt.join ⟨a.toArray⟩ (l.map fun s => (⟨s.toArray⟩ : Str))) = ⟨(joinS a l).toArray⟩
  | [] => rfl
  | [p] => rfl
  | p :: q :: r => by
    have ih := joinS_eq a (q :: r)
    have e : Txt.join (⟨a.toArray⟩ : Str) ((p :: q :: r).map fun s => (⟨s.toArray⟩ : Str)) = (⟨p.toArray⟩ : Str) ++ ⟨a.toArray⟩ ++ Txt.join ⟨a.toArray⟩ ((q :: r).map fun s => (⟨s.toArray⟩ : Str)) := by
      show PySem.Builtin.Str.glued _ _ = _ ++ _ ++ PySem.Builtin.Str.glued _ _
      rw [PySem.StrLaws.glued_eq_join, PySem.StrLaws.glued_eq_join]
      rfl
    rw [e, ih, app_str_arr, app_str_arr, List.append_assoc]
    rfl
theorem joinS_len (a : List Nat) : ∀ l : List (List Nat), (joinS a l).length ≤ (l.map List.length).sum + l.length * a.length
  | [] => by simp [joinS]
  | [p] => by simp [joinS]
  | p :: q :: r => by
    have ih := joinS_len a (q :: r)
    show (p ++ (a ++ joinS a (q :: r))).length ≤ _
    rw [List.length_append, List.length_append, List.map_cons, List.sum_cons, List.length_cons (a := p), Nat.succ_mul]
    omega
section
variable {X : Cx} {W : WX} {xa : Nat → Addr} {σ0 : L2.St}
theorem chars_rep {K : PySem.W.Frag} {H : Hp} {β : Bt} {N : Nat} : ∀ s : List Nat, Reps K H β N (s.map fun c => D.str [c]) (s.map fun c => V.str ⟨#[c]⟩)
  | [] => Reps.nil
  | c :: s => .cons (Rep.mkStr (s := [c]) (by show 1 ≤ lim; decide)) (chars_rep s)
theorem fn_all (hc : X.calm = true) (m : Bool) (b : Bf) : CallR X (bfV b) fun vs H Q => ∃ β M ds, HeapR X.K H β M ∧ Reps X.K H β M.length ds vs ∧ Post X.K W xa (RD X.K) σ0 H β M.length (fnD m M b ds) Q := by
  intro pins s σ H vs us Q I r h
  obtain ⟨β, M, ds, hp, rs, h⟩ := h
  have one : ∀ {d : D}, Reps X.K H β M.length [d] vs → ∃ v, vs = [v] ∧ Rep X.K H β M.length d v := fun {d} rs => by
    unfold Reps at rs
    obtain ⟨v, w, rfl, r1, r2⟩ := rs
    unfold Reps at r2
    subst r2
    exact ⟨v, rfl, r1⟩
  have two : ∀ {d e : D}, Reps X.K H β M.length [d, e] vs → ∃ v u, vs = [v, u] ∧ Rep X.K H β M.length d v ∧ Rep X.K H β M.length e u := fun {d e} rs => by
    unfold Reps at rs
    obtain ⟨v, w, rfl, r1, r2⟩ := rs
    unfold Reps at r2
    obtain ⟨u, w', rfl, r2, r3⟩ := r2
    unfold Reps at r3
    subst r3
    exact ⟨v, u, rfl, r1, r2⟩
  unfold fnD at h
  split at h
  · -- len of a text
    obtain ⟨v, rfl, r1⟩ := one rs
    obtain ⟨hz, rfl⟩ := r1.strI
    exact call_len pins s σ H _ us Q I r ⟨_, _, rfl, ⟨by rw [len_str_arr, lim_eq]; exact hz, (len_str_arr _).symm⟩, Post.okv hp h rfl⟩
  · obtain ⟨v, rfl, r1⟩ := one rs
    obtain ⟨xs, e1, h⟩ := h.ofO
    obtain ⟨p, ws, rfl, h1, r2⟩ := r1.seqO hp e1
    refine call_len pins s σ H _ us Q I r ⟨_, xs.length, rfl, ?_, h.okv hp rfl⟩
    rcases h1 with h1 | h1
    · exact .inl ⟨ws, h1, r2.length.symm⟩
    · exact .inr ⟨ws, h1, r2.length.symm⟩
  · obtain ⟨v, rfl, r1⟩ := one rs
    exact call_abs pins s σ H _ us Q I r ⟨_, by rw [r1.intI], h.okv hp rfl⟩
  · obtain ⟨v, rfl, r1⟩ := one rs
    exact call_int1 pins s σ H _ us Q I r (.inl ⟨_, by rw [r1.intI], h.okv hp rfl⟩)
  · obtain ⟨v, rfl, r1⟩ := one rs
    exact call_int1 pins s σ H _ us Q I r (.inr ⟨_, by rw [show v = V.bl _ from r1], h.okv hp rfl⟩)
  · obtain ⟨v, u, rfl, r1, r2⟩ := two rs
    exact call_max2 hc pins s σ H _ us Q I r ⟨_, _, by rw [r1.intI, r2.intI], h.okv hp rfl⟩
  · obtain ⟨v, u, rfl, r1, r2⟩ := two rs
    exact call_min2 hc pins s σ H _ us Q I r ⟨_, _, by rw [r1.intI, r2.intI], h.okv hp rfl⟩
  · obtain ⟨v, rfl, r1⟩ := one rs
    obtain ⟨l, e1, h⟩ := h.ofO
    obtain ⟨k, e2, h⟩ := h.ofO
    obtain ⟨xs, e3, e4⟩ := Option.bind_eq_some_iff.mp e1
    obtain ⟨p, ws, rfl, h1, r2⟩ := r1.tlO hp e3
    have e5 := r2.intsR e4
    subst e5
    obtain ⟨m1, m2⟩ := maxI_mem e2
    refine cr_max hc pins s σ H _ us Q I r ⟨p, l, rfl, SqL.of h1, List.length_pos_of_mem m1, fun m' q1 q2 => ?_⟩
    have : m' = k := Int.le_antisymm (m2 _ q1) (q2 _ m1)
    subst this
    exact h.okv hp rfl
  · obtain ⟨v, rfl, r1⟩ := one rs
    obtain ⟨l, e1, h⟩ := h.ofO
    obtain ⟨k, e2, h⟩ := h.ofO
    obtain ⟨xs, e3, e4⟩ := Option.bind_eq_some_iff.mp e1
    obtain ⟨p, ws, rfl, h1, r2⟩ := r1.tlO hp e3
    have e5 := r2.intsR e4
    subst e5
    obtain ⟨m1, m2⟩ := minI_mem e2
    refine cr_min hc pins s σ H _ us Q I r ⟨p, l, rfl, SqL.of h1, List.length_pos_of_mem m1, fun m' q1 q2 => ?_⟩
    have : m' = k := Int.le_antisymm (q2 _ m1) (m2 _ q1)
    subst this
    exact h.okv hp rfl
  · obtain ⟨v, rfl, r1⟩ := one rs
    obtain ⟨l, e1, h⟩ := h.ofO
    obtain ⟨xs, e3, e4⟩ := Option.bind_eq_some_iff.mp e1
    obtain ⟨p, ws, rfl, h1, r2⟩ := r1.tlO hp e3
    have e5 := r2.intsR e4
    subst e5
    exact cr_sum hc pins s σ H _ us Q I r ⟨p, l, rfl, SqL.of h1, h.okv hp rfl⟩
  · obtain ⟨v, rfl, r1⟩ := one rs
    obtain ⟨hz, rfl⟩ := r1.strI
    refine call_list_str hc pins s σ H _ us Q I r ⟨_, rfl, by rw [len_str_arr, lim_eq]; exact hz, h.newL hp ?_⟩
    exact chars_rep _
  · obtain ⟨v, rfl, r1⟩ := one rs
    obtain ⟨xs, e1, h⟩ := h.ofO
    obtain ⟨p, ws, rfl, h1, r2⟩ := r1.seqO hp e1
    exact call_list_of pins s σ H _ us Q I r ⟨p, ws, rfl, h1, h.newL hp r2⟩
  · obtain ⟨v, rfl, r1⟩ := one rs
    obtain ⟨hz, rfl⟩ := r1.strI
    refine call_tupS hc pins s σ H _ us Q I r ⟨_, rfl, by rw [len_str_arr, lim_eq]; exact hz, h.tup hp ?_⟩
    exact chars_rep _
  · obtain ⟨v, rfl, r1⟩ := one rs
    obtain ⟨xs, e1, h⟩ := h.ofO
    obtain ⟨p, ws, rfl, h1, r2⟩ := r1.seqO hp e1
    refine call_tuple_of pins s σ H _ us Q I r ⟨p, ws, rfl, ?_⟩
    rcases h1 with h1 | h1
    · exact .inl ⟨h1, h.tup hp r2⟩
    · refine .inr ⟨h1, h.okv hp ?_⟩
      unfold Rep
      exact ⟨p, ws, rfl, h1, r2⟩
  · obtain ⟨v, rfl, r1⟩ := one rs
    obtain ⟨hz, h⟩ := Post.ite h
    rw [Bool.and_eq_true] at hz
    refine call_str_int pins s σ H _ us Q I r ⟨_, by rw [r1.intI], of_decide_eq_true hz.1, ?_⟩
    have q := h.okv hp (.mkStr (of_decide_eq_true hz.2))
    exact q
  · obtain ⟨v, rfl, r1⟩ := one rs
    obtain ⟨l, e1, h⟩ := h.ofO
    obtain ⟨hz, h⟩ := Post.ite h
    obtain ⟨xs, e3, e4⟩ := Option.bind_eq_some_iff.mp e1
    obtain ⟨p, ws, rfl, h1, r2⟩ := r1.tlO hp e3
    have e5 := r2.intsR e4
    subst e5
    refine cr_sorted pins s σ H _ us Q I r ⟨p, l, rfl, SqL.of h1, hz, fun ns' a q1 q2 q3 => ?_⟩
    have : ns' = sortI l := sort_unique (q1.trans (sortI_perm l).symm) q2 (sortI_sorted l)
    subst this
    exact h.newL hp (Reps.ofInts _) a q3
  · exact h.elim
end
end LX

set_option Elab.async false
set_option linter.all false
set_option maxRecDepth 100000
set_option maxHeartbeats 2000000
/-! LxRev: [::-1] of texts and tuples. -/
namespace LX
open PySem L2 PyProof.Rows
theorem rev_adj (n : Nat) : Builtin.Slice.sliceAdjust none none (-1) (n : Int) = ((n : Int) - 1, -1) := by
  unfold Builtin.Slice.sliceAdjust
  rfl
theorem rev_places (n : Nat) : Builtin.Slice.slicePlaces ((n : Int) - 1) (-1) (-1) = n := by
  unfold Builtin.Slice.slicePlaces
  have h1 : ¬ ((-1 : Int) > 0) := by decide
  simp only [h1, if_false]
  rw [show (- -1 : Int) = 1 by decide, Int.ediv_one]
  split <;> omega
theorem rev_pick {α : Type} (xs : Array α) : ((List.range xs.size).filterMap fun (m : Nat) => xs[((xs.size : Int) - 1 + (m : Int) * (-1)).toNat]?) = xs.toList.reverse := by
  have h := PySem.W.krv_all xs
  have e : (List.range xs.size).filterMap (fun (m : Nat) => xs[((xs.size : Int) - 1 + (m : Int) * (-1)).toNat]?) = ((List.range xs.size).map fun k => xs.size - 1 - k).filterMap (xs[·]?) := by
    rw [List.filterMap_map]
    congr 1
    funext m
    show xs[((xs.size : Int) - 1 + (m : Int) * (-1)).toNat]? = xs[xs.size - 1 - m]?
    have : ((xs.size : Int) - 1 + (m : Int) * (-1)).toNat = xs.size - 1 - m := by omega
    rw [this]
  rw [e, PySem.W.krv_range, List.filterMap_reverse, h]
section
variable {prog : Program} {w : World} {A : Around} {E : Value → Shared → Prop} {s : Shared}
theorem getItem_tuple_rev {t sl : Addr} {items : Array Value} {st : Tok} {Q : Value → Shared → Prop} (ht : IsTup s.heap t items) (hs : s.heap.IsSliceOf sl .none .none (.int (-1) st))
    (h : Q (.ref s.heap.objs.size) { s with heap := s.heap.push { cls := .type "tuple", data := .seq items.toList.reverse.toArray } })
    (hsz : items.size ≤ sizeLine) : wpAny (model prog w) A (getItem (.ref t) (.ref sl)) Q E s := by
  have htake : sizeOk (.seq items.toList.reverse.toArray) := by
    show items.toList.reverse.toArray.size ≤ sizeLine
    rw [List.size_toArray, List.length_reverse, Array.length_toList]
    exact hsz
  obtain ⟨os, hos, hcs, hds⟩ := id hs
  have hTs : s.TypeIs (.ref sl) "slice" := ⟨os, hos, hcs⟩
  unfold getItem
  try with_reducible refine wpAny_holding ?_
  first | refine wpAny_bind (wpAny_pure ?_) | skip
  refine wpAny_bind (wpAny_sequenceKey ht.typeIs (by decide) ?_)
  refine wpAny_bind (wpAny_callSpecial?_slot (name := Str.ofString "__getitem__") ht.typeIs PyProof.Rows.slot_tuple_getitem
    (wpAny_call_entry PyProof.Rows.slot_tuple_getitem ht.typeIs entry_tuple_getitem ?_ (args_tuple_getitem _ _)))
  show wpAny _ _ (Builtin.Tuple.tupleItemsOf (.ref t) >>= _) _ _ s
  refine wpAny_bind (tupleItemsOf_ ht ?_)
  refine wpAny_bind (wpAny_typeOf hTs ?_)
  rw [if_pos (by decide)]
  have SA : ∀ {A : Around} {Q : Int × Int × Nat → Shared → Prop}, Q ((items.size : Int) - 1, -1, items.size) s → wpAny (model prog w) A (Builtin.Slice.sliceApplied (.ref sl) (pure (items.size : Int))) Q E s := fun {A Q} q => by
    unfold Builtin.Slice.sliceApplied Builtin.Slice.sliceFields
    refine wpAny_bind (wpAny_bind (wpAny_field hos hds (x := .none) rfl (wpAny_bind (wpAny_field hos hds (x := .none) rfl (wpAny_bind (wpAny_field hos hds (x := .int (-1) st) rfl (wpAny_pure ?_)))))))
    refine wpAny_bind (slicePart_int ?_)
    show wpAny _ _ (if ((-1 : Int) == 0) = true then _ else _) _ _ s
    rw [if_neg (by decide)]
    refine wpAny_bind (slicePart_none (wpAny_bind (slicePart_none (wpAny_bind (wpAny_pure ?_)))))
    show wpAny _ _ (match Builtin.Slice.sliceAdjust none none (-1) (items.size : Int) with | (lo, hi) => pure (lo, (-1 : Int), Builtin.Slice.slicePlaces lo hi (-1))) _ _ s
    rw [rev_adj]
    show wpAny _ _ (pure ((items.size : Int) - 1, (-1 : Int), Builtin.Slice.slicePlaces ((items.size : Int) - 1) (-1) (-1))) _ _ s
    rw [rev_places]
    exact wpAny_pure q
  refine wpAny_bind (SA ?_)
  have hno : ¬ ((((items.size : Int) - 1) == 0 && (-1 : Int) == 1 && items.size == items.size) = true) := by
    rw [show ((-1 : Int) == 1) = false from rfl, Bool.and_false, Bool.false_and]
    exact Bool.false_ne_true
  show wpAny _ _ (if (((items.size : Int) - 1) == 0 && (-1 : Int) == 1 && items.size == items.size) = true then _ else _) _ _ s
  rw [if_neg hno, rev_pick]
  first
    | exact wpAny_bind (m := Builtin.Tuple.tupleExact _) (wpAny_newObj_type (wpAny_pure ⟨_, rfl, wpAny_pure h⟩) htake)
    | exact wpAny_bind (m := Builtin.Tuple.tupleExact _) (wpAny_newObj_type (wpAny_bind (wpAny_pure (wpAny_pure ⟨_, rfl, wpAny_pure h⟩))) htake)
    | exact wpAny_bind (wpAny_bind (m := Builtin.Tuple.tupleExact _) (wpAny_newObj_type (wpAny_pure (wpAny_pure ⟨_, rfl, wpAny_pure h⟩)) htake))
    | exact wpAny_bind (wpAny_bind (m := Builtin.Tuple.tupleExact _) (wpAny_newObj_type (wpAny_pure ⟨_, rfl, wpAny_pure h⟩) htake))
theorem rev_ix (n : Nat) : Builtin.Str.strSliceIndices none none (-1) n = (List.range n).reverse := by
  show sliceRange ((n : Int) - 1) (-1) (-1) = _
  rw [PySem.W.krv_sliceRange, PySem.W.krv_range]
end
section
variable {X : Cx}
def rRev (K : PySem.W.Frag) : V → Hp → VK → Prop := fun x H Q => (∃ z, x = .str z ∧ z.length ≤ sizeLine ∧ Q (.str ⟨z.cps.toList.reverse.toArray⟩) H) ∨ (∃ a xs, x = .ref a ∧ SqT K H a xs ∧ ∀ p, H p = none → Q (.ref p) (upd H p (.tup xs.reverse))) ∨
  ∃ a xs, x = .ref a ∧ SqL K H a xs ∧ ∀ p, H p = none → Q (.ref p) (upd H p (.lst xs.reverse))
theorem pe_rev {e : Expr} {te : TE} {k : Nat} {p1 p2 p3 pos : Pos} (he : PE X e te) : PE X (.Subscript e (.Slice none none (some (.UnaryOp .USub (.Constant (.int 1) k p1) p2)) p3) pos) (tUn (rRev X.K) te) := by
  refine ⟨fun pins s σ H Q I h => ?_⟩
  refine Subscript_ (thn (he.run pins s σ H _ I h) fun v s1 ⟨x, H1, I1, r1, q1⟩ => ?_)
  have hst : PO X (some (.UnaryOp .USub (.Constant (.int 1) k p1) p2)) (tPart (tUn (rU fun i => .int (-i)) (tC (.int 1)))) := po_some (pe_un un_neg pe_int)
  refine wpAny_Slice (thn (po_none.run pins s1 σ H1 (fun o H2 => o = none ∧ H2 = H1) I1 ⟨rfl, rfl⟩) fun vl s2 ⟨l, H2, I2, pl, el, e2⟩ => ?_)
  subst el e2
  refine thn (po_none.run pins s2 σ H2 (fun o H3 => o = none ∧ H3 = H2) I2 ⟨rfl, rfl⟩) fun vu s3 ⟨u, H3, I3, pu, eu, e3⟩ => ?_
  subst eu e3
  refine thn (hst.run pins s3 σ H3 (fun o H4 => o = some (-1) ∧ H4 = H3) I3 ⟨1, rfl, -1, rfl, rfl, rfl⟩) fun vs s4 ⟨o, H4, I4, ps, eo, e4⟩ => ?_
  subst eo e4
  have I5 : Inv X pins σ H4 { s4 with heap := s4.heap.push { cls := .type "slice", data := .fields #[vl, vu, vs] } } := I4.kept (t' := s4.toks) fun b ob q => Heap.get?_push_of_some _ q
  have hsl := Heap.IsSliceOf.new s4.heap vl vu vs
  cases pl
  cases pu
  cases ps with
  | int i st =>
  show wpAny (model X.prog X.w) X.A (subscriptTail e (.Slice none none (some (.UnaryOp .USub (.Constant (.int 1) k p1) p2)) p3) v (.ref s4.heap.objs.size)) (EP X pins σ Q) X.xe { s4 with heap := s4.heap.push { cls := .type "slice", data := .fields #[.none, .none, .int (-1) st] } }
  rcases q1 with ⟨z, rfl, hz, q⟩ | ⟨a, xs, rfl, hx, q⟩ | ⟨a, xs, rfl, hx, q⟩
  · obtain ⟨t, rfl⟩ := r1
    refine tail_any (ops := [.str z t, .ref s4.heap.objs.size]) (typeIs_str _ _ _) F.slot_str_getitem.lookup ?_ (by with_unfolding_all rfl)
    obtain ⟨os, hos, hcs, hds⟩ := hsl
    refine wpAny_getItem_str_slice (l := none) (u := none) (st := some (-1, st)) ⟨os, hos, hcs, hds⟩ rfl ?_
    have e : ((Builtin.Str.strSliceIndices none none (-1) z.length).filterMap (z.cps[·]?)) = z.cps.toList.reverse := by
      rw [rev_ix, List.filterMap_reverse]
      exact congrArg List.reverse (PySem.W.krv_all z.cps)
    have hlen : (⟨z.cps.toList.reverse.toArray⟩ : Str).length ≤ sizeLine := by
      rw [len_str_arr, List.length_reverse, Array.length_toList]
      exact hz
    show Made.post (if ((-1 : Int) == 1 && (Builtin.Str.strSliceIndices none none (-1) z.length).length == z.length) = true then Made.val (.str z t)
      else Made.str ⟨((Builtin.Str.strSliceIndices none none (-1) z.length).filterMap (z.cps[·]?)).toArray⟩) (EP X pins σ Q) _
    rw [show ((-1 : Int) == 1) = false from rfl, Bool.false_and, if_neg Bool.false_ne_true, e]
    exact ⟨hlen, .str _, _, I5.tok _, ⟨_, rfl⟩, q⟩
  · cases r1
    obtain ⟨its, r, ht, hz⟩ := I5.tuple hx
    refine tail_any (ops := [.ref a, .ref s4.heap.objs.size]) ht.typeIs PyProof.Rows.slot_tuple_getitem.lookup ?_ (by with_unfolding_all rfl)
    have hlen := r.length
    refine getItem_tuple_rev ht hsl ?_ (by rw [List.size_toArray, ← hlen]; exact hz)
    refine ⟨.ref _, _, I5.laid (t' := s4.toks) (o := .tup xs.reverse) (fun b ob q => Heap.get?_push_of_some _ q) (Nat.le_refl _) ?_, rfl, q _ (I5.hok.fresh (Nat.le_refl _))⟩
    refine ⟨by rw [List.length_reverse]; exact hz, its.reverse, r.reverse, ?_⟩
    have := IsTup.new (s4.heap.push { cls := .type "slice", data := .fields #[.none, .none, .int (-1) st] }) its.reverse.toArray
    simpa using this
  · cases r1
    obtain ⟨its, r, ht, hz⟩ := I5.list hx
    have hlen := r.length
    refine tail_any (ops := [.ref a, .ref s4.heap.objs.size]) ht.isList.typeIs (PySem.slot_list_getitem.lookup) ?_ (by with_unfolding_all rfl)
    refine wpAny_getItem_list_slice ht.isList hsl .none .none (.int (-1) st) (by decide) ?_ (by rw [List.size_toArray]; omega)
    rw [PySem.W.krv_pick]
    refine ⟨.ref _, _, I5.laid (t' := s4.toks) (o := .lst xs.reverse) (fun b ob q => Heap.get?_push_of_some _ q) (Nat.le_refl _) ?_, rfl, q _ (I5.hok.fresh (Nat.le_refl _))⟩
    exact ⟨by rw [List.length_reverse]; exact hz, _, 0, r.reverse, Heap.get?_push_size _ rfl⟩
end
end LX

set_option Elab.async false
set_option linter.all false
set_option maxRecDepth 100000
set_option maxHeartbeats 2000000
/-! LxExpr: the rules of expressions. -/
namespace LX
open PySem L2 PyProof.Rows
/-- the handled exception: its name's slot, the object, its own dict -/
structure Hx where
  i : Option Nat
  a : Addr
  dx : Addr
/-- how the handled exception stands -/
def HotR (K : PySem.W.Frag) (H : Hp) (β : Bt) (N : Nat) (σ : L2.St) : Option Hx → Option (Nat × Flds) → Prop
  | none, none => True
  | some h, some (_, fs) => (∀ i, h.i = some i → σ[i]? = some (some (.ref h.a))) ∧ ∃ fvs, H h.dx = some (.xd fvs) ∧ ∀ f d, fs.lookup f = some d → ∃ v, fvs.lookup f = some v ∧ Rep K H β N d v
  | _, _ => False
structure SR (K : PySem.W.Frag) (hx : Option Hx) (η : Option (Nat × Flds)) (H : Hp) (β : Bt) (M : MH) (ρ : Env) (σ : L2.St) : Prop where
  env : EnvR K H β M.length ρ σ
  heap : HeapR K H β M
  hot : HotR K H β M.length σ hx η
section
variable {K : PySem.W.Frag} {W : WX} {xa : Nat → Addr} {hx : Option Hx} {η : Option (Nat × Flds)} {σ : L2.St} {H H' : Hp} {β β' : Bt} {M M' : MH} {ρ : Env}
theorem SR.mono (s : SR K hx η H β M ρ σ) (e : Ext β M.length H β' M'.length H') (hp : HeapR K H' β' M') : SR K hx η H' β' M' ρ σ := by
  refine ⟨s.env.mono s.heap e, hp, ?_⟩
  have q := s.hot
  cases hx with
  | none => cases η with
    | none => trivial
    | some _ => exact q.elim
  | some h => cases η with
    | none => exact q.elim
    | some p =>
      obtain ⟨q1, fvs, q2, q3⟩ := q
      refine ⟨q1, fvs, e.fr _ _ q2 (s.heap.ncell q2 fun _ z => by cases z), fun f d l => ?_⟩
      obtain ⟨v, h1, h2⟩ := q3 f d l
      exact ⟨v, h1, Rep.mono s.heap e h2⟩
theorem Post.mono {α A : Type} {R : Hp → Bt → Nat → α → A → Prop} {N : Nat} {r : Res α} {Q Q' : A → Hp → Prop} (h : Post K W xa R σ H β N r Q) (i : ∀ v H, Q v H → Q' v H) : Post K W xa R σ H β N r Q' := by
  cases r with
  | ok d M' => exact fun β' H' v e hp rv => i _ _ (h β' H' v e hp rv)
  | exn c fs M' => exact h
  | stuck => exact h
theorem Post.okR {α A : Type} {R : Hp → Bt → Nat → α → A → Prop} {d : α} {v : A} {Q : A → Hp → Prop} (hp : HeapR K H β M) (h : Post K W xa R σ H β M.length (.ok d M) Q) (r : R H β M.length d v) : Q v H := h β H v (Ext.refl ..) hp r
/-- nothing is wished of exceptions -/
abbrev WT : WX := fun _ _ _ _ => True
theorem Post.toT {α A : Type} {R : Hp → Bt → Nat → α → A → Prop} {N : Nat} {r : Res α} {Q : A → Hp → Prop} (h : Post K W xa R σ H β N r Q) : Post K WT xa R [] H β N r Q := by
  cases r with
  | ok d M' => exact h
  | exn c fs M' => exact fun _ _ _ _ _ _ _ _ => trivial
  | stuck => exact h
end
/-- the reading of an expression, of a test, of arguments -/
def tR {α A : Type} (R : PySem.W.Frag → Hp → Bt → Nat → α → A → Prop) (K : PySem.W.Frag) (W : WX) (xa : Nat → Addr) (hx : Option Hx) (η : Option (Nat × Flds)) (f : Env → MH → Res α) : L2.St → Hp → (A → Hp → Prop) → Prop :=
  fun σ H Q => ∃ β ρ M, SR K hx η H β M ρ σ ∧ Post K W xa (R K) σ H β M.length (f ρ M) Q
abbrev tD (K : PySem.W.Frag) (W : WX) (xa : Nat → Addr) (hx : Option Hx) (η : Option (Nat × Flds)) (f : Env → MH → Res D) : TE := tR RD K W xa hx η f
abbrev tDs (K : PySem.W.Frag) (W : WX) (xa : Nat → Addr) (hx : Option Hx) (η : Option (Nat × Flds)) (f : Env → MH → Res (List D)) : TA := tR RDs K W xa hx η f
/-- a test: its value is True or False -/
def tT (K : PySem.W.Frag) (W : WX) (xa : Nat → Addr) (hx : Option Hx) (η : Option (Nat × Flds)) (f : Env → MH → Res D) : TT := fun σ H Q => tD K W xa hx η f σ H fun v H1 => ∃ k, v = .bl k ∧ Q k H1
section
variable {X : Cx} {W : WX} {xa : Nat → Addr} {hx : Option Hx} {η : Option (Nat × Flds)} {e a b e3 : Expr} {es : List Expr} {pos : Pos} {fa fb fc : Env → MH → Res D} {fs : Env → MH → Res (List D)}
theorem PE.imp {t t' : TE} (h : PE X e t) (i : ∀ σ H Q, t' σ H Q → t σ H Q) : PE X e t' := ⟨fun pins s σ H Q I q => h.run pins s σ H Q I (i σ H Q q)⟩
theorem PT.imp {t t' : TT} (h : PT X e t) (i : ∀ σ H Q, t' σ H Q → t σ H Q) : PT X e t' := ⟨fun pins s σ H Q I q => h.run pins s σ H Q I (i σ H Q q)⟩
theorem PW.imp {t t' : TT} (h : PW X e t) (i : ∀ σ H Q, t' σ H Q → t σ H Q) : PW X e t' := ⟨fun w pins s σ H Q I q => h.run w pins s σ H Q I (i σ H Q q)⟩
theorem PA.imp {t t' : TA} (h : PA X es t) (i : ∀ σ H Q, t' σ H Q → t σ H Q) : PA X es t' := ⟨fun p pins s σ H Q I q => h.run p pins s σ H Q I (i σ H Q q)⟩
theorem PE.eqf {f g : Env → MH → Res D} (h : PE X e (tD X.K W xa hx η f)) (q : ∀ ρ M, f ρ M = g ρ M) : PE X e (tD X.K W xa hx η g) := by
  have : f = g := funext fun ρ => funext fun M => q ρ M
  rw [← this]
  exact h
/-- one thing, then another, at the same slots -/
theorem tR.seq {α A γ C : Type} {R : PySem.W.Frag → Hp → Bt → Nat → α → A → Prop} {R' : PySem.W.Frag → Hp → Bt → Nat → γ → C → Prop} {K : PySem.W.Frag} {f : Env → MH → Res α} {g : α → Env → MH → Res γ} {σ : L2.St} {H : Hp} {Q : C → Hp → Prop}
    (h : tR R' K W xa hx η (fun ρ M => (f ρ M).bind fun x M => g x ρ M) σ H Q) {P : A → Hp → Prop}
    (i : ∀ β ρ M x v H1, SR K hx η H1 β M ρ σ → R K H1 β M.length x v → Post K W xa (R' K) σ H1 β M.length (g x ρ M) Q → P v H1) : tR R K W xa hx η f σ H P := by
  obtain ⟨β, ρ, M, sr, h⟩ := h
  exact ⟨β, ρ, M, sr, h.bind.mono fun v H1 ⟨β1, M1, x, e1, hp1, r1, h1⟩ => i β1 ρ M1 x v H1 (sr.mono e1 hp1) r1 h1⟩
/-- the same, the first thing's value kept along -/
theorem tR.seq2 {α A γ C : Type} {R : PySem.W.Frag → Hp → Bt → Nat → α → A → Prop} {R' : PySem.W.Frag → Hp → Bt → Nat → γ → C → Prop} {K : PySem.W.Frag} {f : Env → MH → Res α} {g : α → MH → Res γ} {σ : L2.St} {H : Hp} {Q : C → Hp → Prop}
    {β : Bt} {ρ : Env} {M : MH} (sr : SR K hx η H β M ρ σ) (h : Post K W xa (R' K) σ H β M.length ((f ρ M).bind fun x M => g x M) Q) {P : A → Hp → Prop}
    (i : ∀ β1 M1 x v H1, SR K hx η H1 β1 M1 ρ σ → (∀ {d : D} {u : V}, Rep K H β M.length d u → Rep K H1 β1 M1.length d u) → (∀ {d : List D} {u : List V}, Reps K H β M.length d u → Reps K H1 β1 M1.length d u) → R K H1 β1 M1.length x v → Post K W xa (R' K) σ H1 β1 M1.length (g x M1) Q → P v H1) : tR R K W xa hx η f σ H P :=
  ⟨β, ρ, M, sr, h.bind.mono fun v H1 ⟨β1, M1, x, e1, hp1, r1, h1⟩ => i β1 M1 x v H1 (sr.mono e1 hp1) (Rep.mono sr.heap e1) (Reps.mono sr.heap e1) r1 h1⟩
/-! ### names, constants, displays -/
theorem d_var {i : Nat} {x : Str} (hN : X.N[i]? = some x) (hv : Vis X.env.scope x) (hd : (x == ("__debug__" : Str)) = false) (hcd : (x == ("__classdict__" : Str)) = false) :
    PE X (.Name x pos) (tD X.K W xa hx η fun ρ M => match ρ[i]? with
      | some (some d) => .ok d M
      | _ => .stuck) := by
  refine PE.imp (pe_var hN hv hd hcd) fun σ H Q h => ?_
  obtain ⟨β, ρ, M, sr, h⟩ := h
  dsimp only at h
  split at h
  · rename_i d hd
    obtain ⟨v, q1, q2⟩ := sr.env.val i d hd
    exact ⟨v, q1, h.okR sr.heap q2⟩
  · exact h.elim
theorem d_tC {v : V} {d : D} (h : PE X e (tC v)) (r : ∀ H β N, Rep X.K H β N d v) : PE X e (tD X.K W xa hx η fun ρ M => .ok d M) :=
  PE.imp h fun σ H Q ⟨β, ρ, M, sr, h⟩ => h.okR sr.heap (r _ _ _)
theorem da_nil : PA X [] (tDs X.K W xa hx η fun ρ M => .ok [] M) := PA.imp pa_nil fun σ H Q ⟨β, ρ, M, sr, h⟩ => h.okR sr.heap Reps.nil
theorem da_cons (ha : PE X e (tD X.K W xa hx η fa)) (hr : PA X es (tDs X.K W xa hx η fs)) (hs : starEach (e :: es) X.env = (false, eval e X.env) :: starEach es X.env) :
    PA X (e :: es) (tDs X.K W xa hx η fun ρ M => (fa ρ M).bind fun d M => (fs ρ M).bind fun ds M => .ok (d :: ds) M) :=
  PA.imp (pa_cons ha hr hs) fun σ H Q h => tR.seq h fun β ρ M x v H1 sr r1 h1 =>
    tR.seq2 sr h1 fun β2 M2 ds vs H2 sr2 mo _ r2 h2 => h2.okR sr2.heap (.cons (mo r1) r2)
theorem d_tup {x1 : Nat} (h : PA X es (tDs X.K W xa hx η fs)) : PE X (.Tuple es x1 pos) (tD X.K W xa hx η fun ρ M => (fs ρ M).bind fun ds M => if ds.length ≤ lim then .ok (.tup ds) M else .stuck) :=
  PE.imp (pe_tup h) fun σ H Q h => tR.seq h fun β ρ M ds vs H1 sr r1 h1 => by
    obtain ⟨hz, h1⟩ := Post.ite h1
    exact ⟨by rw [r1.length, lim_eq]; exact hz, h1.tup sr.heap r1⟩
theorem d_lst {m : Bool} (h : PA X es (tDs X.K W xa hx η fs)) : PE X (.List es pos) (tD X.K W xa hx η fun ρ M => (fs ρ M).bind fun ds M => if ds.length ≤ lim then newL m ds M else .stuck) :=
  PE.imp (pe_lst h) fun σ H Q h => tR.seq h fun β ρ M ds vs H1 sr r1 h1 => by
    obtain ⟨hz, h1⟩ := Post.ite h1
    exact ⟨by rw [r1.length, lim_eq]; exact hz, h1.newL sr.heap r1⟩
/-! ### operators -/
theorem d_bin {m : Bool} {o : Operator} (ha : PE X a (tD X.K W xa hx η fa)) (hb : PE X b (tD X.K W xa hx η fb)) :
    PE X (.BinOp a o b pos) (tD X.K W xa hx η fun ρ M => (fa ρ M).bind fun x M => (fb ρ M).bind fun y M => binD m M o x y) :=
  PE.imp (pe_op (bin_all (W := WT) (xa := xa) (σ0 := []) m o) ha hb) fun σ H Q h => tR.seq h fun β ρ M x v H1 sr r1 h1 =>
    tR.seq2 sr h1 fun β2 M2 y u H2 sr2 mo _ r2 h2 => ⟨β2, M2, x, y, sr2.heap, mo r1, r2, h2.toT⟩
theorem d_neg (ha : PE X a (tD X.K W xa hx η fa)) : PE X (.UnaryOp .USub a pos) (tD X.K W xa hx η fun ρ M => (fa ρ M).bind fun x M => (ofO (asI x) M).bind fun i M => .ok (.int (-i)) M) :=
  PE.imp (pe_un un_neg ha) fun σ H Q h => tR.seq h fun β ρ M x v H1 sr r1 h1 => by
    obtain ⟨i, e1, h1⟩ := h1.ofO
    cases x with
    | int j =>
      have : j = i := Option.some.inj e1
      subst this
      exact ⟨j, r1, h1.okR sr.heap (show Rep _ _ _ _ (D.int (-j)) (V.int (-j)) from rfl)⟩
    | _ => cases e1
theorem bmark (o : CmpOp) (b : Expr) (h : ∀ es k p, b ≠ .Set es k p) : behindInMarks o b = false := by
  cases b with
  | Set es k p => exact absurd rfl (h es k p)
  | _ => rfl
theorem d_cmp {o : CmpOp} (hu : X.A.units + 65 < cLine) (ha : PE X a (tD X.K W xa hx η fa)) (hb : PE X b (tD X.K W xa hx η fb)) (hm : behindInMarks o b = false) :
    PE X (.Compare a [o] [b] pos) (tD X.K W xa hx η fun ρ M => (fa ρ M).bind fun x M => (fb ρ M).bind fun y M => (ofO (cmpD M o x y) M).bind fun k M => .ok (.bl k) M) :=
  PE.imp (pe_cmpR (cmp_all hu o) ha hb hm) fun σ H Q h => tR.seq h fun β ρ M x v H1 sr r1 h1 =>
    tR.seq2 sr h1 fun β2 M2 y u H2 sr2 mo _ r2 h2 => by
      obtain ⟨k, e1, h2⟩ := h2.ofO
      exact ⟨β2, M2, x, y, k, sr2.heap, mo r1, r2, e1, h2.okR sr2.heap (show Rep _ _ _ _ (D.bl k) (V.bl k) from rfl)⟩
/-! ### truth, and, or, not -/
theorem asBl_some {d : D} {k : Bool} (h : asBl d = some k) : d = .bl k := by
  cases d with
  | bl b => exact congrArg D.bl (Option.some.inj h)
  | _ => cases h
theorem d_and (ha : PE X a (tD X.K W xa hx η fa)) (hb : PE X (.BoolOp .And (b :: es) pos) (tD X.K W xa hx η fb)) :
    PE X (.BoolOp .And (a :: b :: es) pos) (tD X.K W xa hx η fun ρ M => tst (fa ρ M) fun k M => if k then tst (fb ρ M) fun k M => .ok (.bl k) M else .ok (.bl false) M) :=
  PE.imp (pe_and ha hb) fun σ H Q h => tR.seq h fun β ρ M x v H1 sr r1 h1 => by
    obtain ⟨k, e1, h1⟩ := h1.ofO
    have := asBl_some e1
    subst this
    refine ⟨k, r1, ?_⟩
    cases k with
    | true =>
      refine ⟨β, ρ, M, sr, ?_⟩
      refine Post.mono (Post.bind h1) fun v2 H2 ⟨β2, M2, y, e2, hp2, r2, h2⟩ => ?_
      obtain ⟨k2, e3, h2⟩ := h2.ofO
      have := asBl_some e3
      subst this
      exact h2.okR hp2 r2
    | false => exact h1.okR sr.heap rfl
theorem d_or (ha : PE X a (tD X.K W xa hx η fa)) (hb : PE X (.BoolOp .Or (b :: es) pos) (tD X.K W xa hx η fb)) :
    PE X (.BoolOp .Or (a :: b :: es) pos) (tD X.K W xa hx η fun ρ M => tst (fa ρ M) fun k M => if k then .ok (.bl true) M else tst (fb ρ M) fun k M => .ok (.bl k) M) :=
  PE.imp (pe_or ha hb) fun σ H Q h => tR.seq h fun β ρ M x v H1 sr r1 h1 => by
    obtain ⟨k, e1, h1⟩ := h1.ofO
    have := asBl_some e1
    subst this
    refine ⟨k, r1, ?_⟩
    cases k with
    | false =>
      refine ⟨β, ρ, M, sr, ?_⟩
      refine Post.mono (Post.bind h1) fun v2 H2 ⟨β2, M2, y, e2, hp2, r2, h2⟩ => ?_
      obtain ⟨k2, e3, h2⟩ := h2.ofO
      have := asBl_some e3
      subst this
      exact h2.okR hp2 r2
    | true => exact h1.okR sr.heap rfl
theorem d_not (ha : PE X a (tD X.K W xa hx η fa)) : PE X (.UnaryOp .Not a pos) (tD X.K W xa hx η fun ρ M => tst (fa ρ M) fun k M => .ok (.bl (!k)) M) :=
  PE.imp (pe_not ha) fun σ H Q h => tR.seq h fun β ρ M x v H1 sr r1 h1 => by
    obtain ⟨k, e1, h1⟩ := h1.ofO
    have := asBl_some e1
    subst this
    exact ⟨k, r1, h1.okR sr.heap rfl⟩
/-- a test by its value, which is True or False -/
theorem t_val (h : PE X e (tD X.K W xa hx η fa)) (he : ∀ whole, isTrue e X.env whole = (do let v ← whole; standAt e.pos; holding [v] (truthy v))) : PT X e (tT X.K W xa hx η fa) := pt_val h he
theorem t_truth (h : PE X e (tD X.K W xa hx η fa)) (he : ∀ whole, isTrue e X.env whole = (do let v ← whole; standAt e.pos; holding [v] (truthy v))) :
    PT X e (tT X.K W xa hx η fun ρ M => (fa ρ M).bind fun x M => (ofO (truthD M x) M).bind fun k M => .ok (.bl k) M) :=
  PT.imp (pt_truth h he) fun σ H Q h => tR.seq h fun β ρ M x v H1 sr r1 h1 => by
    obtain ⟨k, e2, h1⟩ := h1.ofO
    obtain ⟨k', e3, q⟩ := h1.okR sr.heap (show RD X.K H1 β M.length (D.bl k) (V.bl k) from rfl)
    cases e3
    exact ⟨k, truth_rep sr.heap r1 e2, q⟩
theorem t_cmp {o : CmpOp} (hu : X.A.units + 65 < cLine) (ha : PE X a (tD X.K W xa hx η fa)) (hb : PE X b (tD X.K W xa hx η fb)) (hm : behindInMarks o b = false) :
    PT X (.Compare a [o] [b] pos) (tT X.K W xa hx η fun ρ M => (fa ρ M).bind fun x M => (fb ρ M).bind fun y M => (ofO (cmpD M o x y) M).bind fun k M => .ok (.bl k) M) :=
  PT.imp (pt_cmpR (cmp_all hu o) ha hb hm) fun σ H Q h => tR.seq h fun β ρ M x v H1 sr r1 h1 => tR.seq2 sr h1 fun β2 M2 y u H2 sr2 mo _ r2 h2 => by
    obtain ⟨k, e1, h2⟩ := h2.ofO
    exact ⟨β2, M2, x, y, k, sr2.heap, mo r1, r2, e1, h2.okR sr2.heap (show RD X.K H2 β2 M2.length (D.bl k) (V.bl k) from rfl)⟩
theorem t_not (ha : PT X a (tT X.K W xa hx η fa)) : PT X (.UnaryOp .Not a pos) (tT X.K W xa hx η fun ρ M => tst (fa ρ M) fun k M => .ok (.bl (!k)) M) :=
  PT.imp (pt_not ha) fun σ H Q h => tR.seq h fun β ρ M x v H1 sr r1 h1 => by
    obtain ⟨k, e1, h1⟩ := h1.ofO
    have := asBl_some e1
    subst this
    obtain ⟨k', e3, q⟩ := h1.okR sr.heap (show RD X.K H1 β M.length (D.bl (!k)) (V.bl (!k)) from rfl)
    cases e3
    exact ⟨k, r1, q⟩
theorem t_and (ha : PT X a (tT X.K W xa hx η fa)) (hb : PW X (.BoolOp .And (b :: es) pos) (tT X.K W xa hx η fb)) :
    PW X (.BoolOp .And (a :: b :: es) pos) (tT X.K W xa hx η fun ρ M => tst (fa ρ M) fun k M => if k then tst (fb ρ M) fun k M => .ok (.bl k) M else .ok (.bl false) M) :=
  PW.imp (pw_and ha hb) fun σ H Q h => tR.seq h fun β ρ M x v H1 sr r1 h1 => by
    obtain ⟨k, e1, h1⟩ := h1.ofO
    have := asBl_some e1
    subst this
    refine ⟨k, r1, ?_⟩
    cases k with
    | true =>
      refine ⟨β, ρ, M, sr, ?_⟩
      refine Post.mono (Post.bind h1) fun v2 H2 ⟨β2, M2, y, e2, hp2, r2, h2⟩ => ?_
      obtain ⟨k2, e3, h2⟩ := h2.ofO
      have := asBl_some e3
      subst this
      exact h2.okR hp2 r2
    | false =>
      obtain ⟨k', e3, q⟩ := h1.okR sr.heap (show RD X.K H1 β M.length (D.bl false) (V.bl false) from rfl)
      cases e3
      exact q
theorem t_or (ha : PT X a (tT X.K W xa hx η fa)) (hb : PW X (.BoolOp .Or (b :: es) pos) (tT X.K W xa hx η fb)) :
    PW X (.BoolOp .Or (a :: b :: es) pos) (tT X.K W xa hx η fun ρ M => tst (fa ρ M) fun k M => if k then .ok (.bl true) M else tst (fb ρ M) fun k M => .ok (.bl k) M) :=
  PW.imp (pw_or ha hb) fun σ H Q h => tR.seq h fun β ρ M x v H1 sr r1 h1 => by
    obtain ⟨k, e1, h1⟩ := h1.ofO
    have := asBl_some e1
    subst this
    refine ⟨k, r1, ?_⟩
    cases k with
    | false =>
      refine ⟨β, ρ, M, sr, ?_⟩
      refine Post.mono (Post.bind h1) fun v2 H2 ⟨β2, M2, y, e2, hp2, r2, h2⟩ => ?_
      obtain ⟨k2, e3, h2⟩ := h2.ofO
      have := asBl_some e3
      subst this
      exact h2.okR hp2 r2
    | true =>
      obtain ⟨k', e3, q⟩ := h1.okR sr.heap (show RD X.K H1 β M.length (D.bl true) (V.bl true) from rfl)
      cases e3
      exact q
theorem d_ite (hc : PT X e3 (tT X.K W xa hx η fc)) (ha : PE X a (tD X.K W xa hx η fa)) (hb : PE X b (tD X.K W xa hx η fb)) :
    PE X (.IfExp e3 a b pos) (tD X.K W xa hx η fun ρ M => tst (fc ρ M) fun k M => if k then fa ρ M else fb ρ M) :=
  PE.imp (pe_ifExp hc ha hb) fun σ H Q h => tR.seq h fun β ρ M x v H1 sr r1 h1 => by
    obtain ⟨k, e1, h1⟩ := h1.ofO
    have := asBl_some e1
    subst this
    refine ⟨k, r1, ?_⟩
    cases k with
    | true => exact ⟨β, ρ, M, sr, h1⟩
    | false => exact ⟨β, ρ, M, sr, h1⟩
/-! ### subscripts -/
theorem ixD_rep {M : MH} {β : Bt} {H : Hp} {x y d : D} {v u : V} {Q : VK} {σ0 : L2.St} (hp : HeapR X.K H β M) (r1 : Rep X.K H β M.length x v) (r2 : Rep X.K H β M.length y u) (e : ixD M x y = some d) (h : Post X.K W xa (RD X.K) σ0 H β M.length (.ok d M) Q) : rIx X.K v u H Q := by
  have seqs : ∀ k, y = .int k → ixD M x y = ((seqOf M x).bind fun xs => atI xs k) → rIx X.K v u H Q := fun k ey h' => by
    subst ey
    rw [h'] at e
    obtain ⟨xs, e1, e2⟩ := Option.bind_eq_some_iff.mp e
    obtain ⟨p, vs, rfl, q, rs⟩ := r1.seqO hp e1
    obtain ⟨w, e3, rw'⟩ := atI_rep rs e2
    rcases q with q | q
    · exact .inl ⟨p, vs, k, w, rfl, r2, q, e3, h.okR hp rw'⟩
    · exact .inr (.inl ⟨p, vs, k, w, rfl, r2, q, e3, h.okR hp rw'⟩)
  cases y with
  | int k =>
    cases x with
    | str s =>
      obtain ⟨hz, rfl⟩ := r1.strI
      have e' : (atI s k).map (fun c => D.str [c]) = some d := e
      cases f : atI s k with
      | none => rw [f] at e'; cases e'
      | some c =>
        rw [f] at e'
        cases e'
        refine .inr (.inr ⟨_, k, c, rfl, r2, by rw [len_str_arr, lim_eq]; exact hz, f, h.okR hp (Rep.mkStr (s := [c]) (by show 1 ≤ lim; decide))⟩)
    | _ => exact seqs k rfl rfl
  | _ => cases x <;> cases e
theorem d_ix (ha : PE X a (tD X.K W xa hx η fa)) (hb : PE X b (tD X.K W xa hx η fb)) (hs : PlainIx b) : PE X (.Subscript a b pos) (tD X.K W xa hx η fun ρ M => (fa ρ M).bind fun x M => (fb ρ M).bind fun y M => ofO (ixD M x y) M) :=
  PE.imp (pe_ix ix_seq ha hb hs) fun σ H Q h => tR.seq h fun β ρ M x v H1 sr r1 h1 => tR.seq2 sr h1 fun β2 M2 y u H2 sr2 mo _ r2 h2 => by
    cases e : ixD M2 x y with
    | none => rw [e] at h2; exact h2.elim
    | some d =>
      rw [e] at h2
      exact ixD_rep sr2.heap (mo r1) r2 e h2
theorem revD_rep {m : Bool} {M : MH} {β : Bt} {H : Hp} {x : D} {v : V} {Q : VK} {σ0 : L2.St} (hp : HeapR X.K H β M) (r1 : Rep X.K H β M.length x v) (h : Post X.K W xa (RD X.K) σ0 H β M.length (revD m M x) Q) : rRev X.K v H Q := by
  have lists : revD m M x = ((ofO (tlOf M x) M).bind fun xs M => LX.newL m xs.reverse M) → rRev X.K v H Q := fun h' => by
    rw [h'] at h
    obtain ⟨xs, e1, h⟩ := h.ofO
    obtain ⟨p, vs, rfl, q, rs⟩ := r1.tlO hp e1
    exact .inr (.inr ⟨p, vs, rfl, SqL.of q, h.newL hp rs.reverse⟩)
  cases x with
  | str s =>
    obtain ⟨hz, rfl⟩ := r1.strI
    refine .inl ⟨_, rfl, by rw [len_str_arr, lim_eq]; exact hz, ?_⟩
    have h' : Post X.K W xa (RD X.K) σ0 H β M.length (.ok (.str s.reverse) M) Q := h
    exact h'.okR hp (Rep.mkStr (by rw [List.length_reverse]; exact hz))
  | tup xs =>
    obtain ⟨p, vs, rfl, q, rs⟩ := r1.tupI
    have h' : Post X.K W xa (RD X.K) σ0 H β M.length (.ok (.tup xs.reverse) M) Q := h
    exact .inr (.inl ⟨p, vs, rfl, q, h'.tup hp rs.reverse⟩)
  | _ => exact lists rfl
theorem d_rev {m : Bool} {k : Nat} {p1 p2 p3 : Pos} (ha : PE X a (tD X.K W xa hx η fa)) : PE X (.Subscript a (.Slice none none (some (.UnaryOp .USub (.Constant (.int 1) k p1) p2)) p3) pos) (tD X.K W xa hx η fun ρ M => (fa ρ M).bind fun x M => revD m M x) :=
  PE.imp (pe_rev ha) fun σ H Q h => tR.seq h fun β ρ M x v H1 sr r1 h1 => revD_rep sr.heap r1 h1
def rSl3 (K : PySem.W.Frag) : V → Option Int → Option Int → Hp → VK → Prop := fun x lo hi H Q => rSlS x lo hi H Q ∨ rSlA K x lo hi H Q ∨ rSlL K x lo hi H Q
theorem sl_3 : SlR X (rSl3 X.K) := SlR.or sl_str (SlR.or sl_tupA sl_list)
theorem cutL_len {α : Type} (xs : List α) (lo hi : Option Int) : (cutL xs lo hi).length ≤ xs.length := by
  unfold cutL
  rw [List.length_take, List.length_drop]
  omega
theorem cutD_rep {m : Bool} {M : MH} {β : Bt} {H : Hp} {x : D} {v : V} {lo hi : Option Int} {Q : VK} {σ0 : L2.St} (hp : HeapR X.K H β M) (r1 : Rep X.K H β M.length x v) (h : Post X.K W xa (RD X.K) σ0 H β M.length (cutD m M x lo hi) Q) : rSl3 X.K v lo hi H Q := by
  have lists : cutD m M x lo hi = ((ofO (tlOf M x) M).bind fun xs M => LX.newL m (cutL xs lo hi) M) → rSl3 X.K v lo hi H Q := fun h' => by
    rw [h'] at h
    obtain ⟨xs, e1, h⟩ := h.ofO
    obtain ⟨p, vs, rfl, q, rs⟩ := r1.tlO hp e1
    exact .inr (.inr ⟨p, vs, rfl, SqL.of q, h.newL hp (cut_rep rs lo hi)⟩)
  cases x with
  | str s =>
    obtain ⟨hz, rfl⟩ := r1.strI
    refine .inl ⟨_, rfl, by rw [len_str_arr, lim_eq]; exact hz, ?_⟩
    have h' : Post X.K W xa (RD X.K) σ0 H β M.length (.ok (.str (cutL s lo hi)) M) Q := h
    have q := h'.okR hp (Rep.mkStr (Nat.le_trans (cutL_len s lo hi) hz))
    have e : cutS (⟨s.toArray⟩ : Str) lo hi = ⟨(cutL s lo hi).toArray⟩ := by
      unfold cutS cutL
      rw [len_str_arr]
    rw [e]
    exact q
  | tup xs =>
    obtain ⟨p, vs, rfl, q, rs⟩ := r1.tupI
    have h' : Post X.K W xa (RD X.K) σ0 H β M.length (.ok (.tup (cutL xs lo hi)) M) Q := h
    refine .inr (.inl ⟨p, vs, rfl, q, fun hw => ?_, fun _ => h'.tup hp (cut_rep rs lo hi)⟩)
    have e : cutL xs lo hi = xs := by
      unfold cutL
      rw [← rs.length, hw.1, hw.2, Nat.sub_zero, List.drop_zero, rs.length, List.take_length]
    rw [e] at h'
    exact h'.okR hp r1
  | fl xs =>
    have h' : Post X.K W xa (RD X.K) σ0 H β M.length (LX.newL m (cutL xs lo hi) M) Q := h
    unfold Rep at r1
    obtain ⟨p, vs, rfl, q, rs⟩ := r1
    exact .inr (.inr ⟨p, vs, rfl, q.sq, h'.newL hp (cut_rep rs lo hi)⟩)
  | _ => exact lists rfl
/-- a slice's bound -/
theorem d_po {s : Sys} {c : Cf} {o : Option Expr} {oe : Option E} (h : ∀ e x, o = some e → oe = some x → PE X e (tD X.K W xa hx η (s.e c x))) (h0 : o.isSome = oe.isSome) : PO X o (fun σ H Q => tR (fun _ => RP) X.K W xa hx η (optE s c oe) σ H Q) := by
  cases o with
  | none =>
    cases oe with
    | some _ => cases h0
    | none => exact ⟨fun pins st σ H Q I q => po_none.run pins st σ H Q I (by
        obtain ⟨β, ρ, M, sr, q⟩ := q
        exact q β H none (Ext.refl ..) sr.heap rfl)⟩
  | some e =>
    cases oe with
    | none => cases h0
    | some x => exact ⟨fun pins st σ H Q I q => (po_some (h e x rfl rfl)).run pins st σ H Q I (by
        refine tR.seq q fun β ρ M y v H1 sr r1 h1 => ?_
        obtain ⟨i, e1, h1⟩ := h1.ofO
        cases y with
        | int j =>
          have : j = i := Option.some.inj e1
          subst this
          exact ⟨j, r1, h1 β H1 (some j) (Ext.refl ..) sr.heap rfl⟩
        | _ => cases e1)⟩
theorem d_cut {m : Bool} {s : Sys} {c : Cf} {lo hi : Option Expr} {lx ux : Option E} {p2 : Pos} (ha : PE X a (tD X.K W xa hx η fa)) (hl : ∀ e x, lo = some e → lx = some x → PE X e (tD X.K W xa hx η (s.e c x))) (hl0 : lo.isSome = lx.isSome)
    (hu : ∀ e x, hi = some e → ux = some x → PE X e (tD X.K W xa hx η (s.e c x))) (hu0 : hi.isSome = ux.isSome) :
    PE X (.Subscript a (.Slice lo hi none p2) pos) (tD X.K W xa hx η fun ρ M => (fa ρ M).bind fun x M => (optE s c lx ρ M).bind fun l M => (optE s c ux ρ M).bind fun h M => cutD m M x l h) :=
  PE.imp (pe_slice sl_3 ha (d_po hl hl0) (d_po hu hu0)) fun σ H Q h => tR.seq h fun β ρ M x v H1 sr r1 h1 => tR.seq2 sr h1 fun β2 M2 l l' H2 sr2 mo _ r2 h2 =>
    tR.seq2 sr2 h2 fun β3 M3 u u' H3 sr3 mo3 _ r3 h3 => by
      have e1 : l = l' := r2
      have e2 : u = u' := r3
      subst e1 e2
      exact cutD_rep sr3.heap (mo3 (mo r1)) h3
end
end LX

set_option Elab.async false
set_option linter.all false
set_option maxRecDepth 100000
set_option maxHeartbeats 2000000
/-! LxStp: [l::2] of texts and tuples. -/
namespace LX
open PySem L2 PyProof.Rows
theorem evry_len {α : Type} : ∀ l : List α, (evry l).length = (l.length + 1) / 2
  | [] => by simp [evry]
  | [a] => by simp [evry]
  | a :: b :: r => by
    show (evry r).length + 1 = (r.length + 1 + 1 + 1) / 2
    rw [evry_len r]
    omega
theorem evry_le {α : Type} (l : List α) : (evry l).length ≤ l.length := by
  rw [evry_len]
  omega
theorem evry_pick {α : Type} : ∀ l : List α, ((List.range ((l.length + 1) / 2)).filterMap fun (m : Nat) => l[2 * m]?) = evry l
  | [] => by simp [evry]
  | [a] => by
    have e : ([a].length + 1) / 2 = 1 := by simp
    rw [e]
    rfl
  | a :: b :: r => by
    have e : ((a :: b :: r).length + 1) / 2 = (r.length + 1) / 2 + 1 := by
      show (r.length + 1 + 1 + 1) / 2 = _
      omega
    have ef : ((fun (m : Nat) => (a :: b :: r)[2 * m]?) ∘ Nat.succ) = fun (m : Nat) => r[2 * m]? := by
      funext m
      show (a :: b :: r)[2 * (m + 1)]? = r[2 * m]?
      rw [show 2 * (m + 1) = 2 * m + 1 + 1 by omega, List.getElem?_cons_succ, List.getElem?_cons_succ]
    rw [e, List.range_succ_eq_map, List.filterMap_cons]
    show a :: _ = a :: evry r
    rw [← evry_pick r, List.filterMap_map, ef]
theorem pick2 {α : Type} (xs : Array α) (j : Nat) : ((List.range ((xs.size - j + 1) / 2)).filterMap fun (m : Nat) => xs[j + 2 * m]?) = evry (xs.toList.drop j) := by
  rw [← evry_pick, List.length_drop, Array.length_toList]
  congr 1
  funext m
  rw [List.getElem?_drop, Array.getElem?_toList]
theorem evry_map {α γ : Type} (f : α → γ) : ∀ l : List α, evry (l.map f) = (evry l).map f
  | [] => rfl
  | [a] => rfl
  | a :: b :: r => by
    show f a :: evry (r.map f) = f a :: (evry r).map f
    rw [evry_map f r]
theorem evry_mem {α : Type} {x : α} : ∀ {l : List α}, x ∈ evry l → x ∈ l
  | [], h => h
  | [a], h => h
  | a :: b :: r, h => by
    rcases List.mem_cons.mp h with rfl | h
    · exact List.mem_cons_self
    · exact List.mem_cons_of_mem _ (List.mem_cons_of_mem _ (evry_mem h))
theorem Reps.evry {K : PySem.W.Frag} {H : Hp} {β : Bt} {N : Nat} : ∀ {ds : List D} {vs : List V}, Reps K H β N ds vs → Reps K H β N (LX.evry ds) (LX.evry vs)
  | [], _, r => by
    unfold Reps at r
    subst r
    exact .nil
  | [d], _, r => by
    obtain ⟨v, w, rfl, r1, r2⟩ := Reps.consI r
    unfold Reps at r2
    subst r2
    exact .one r1
  | d :: e :: ds, _, r => by
    obtain ⟨v, w, rfl, r1, r2⟩ := Reps.consI r
    obtain ⟨u, z, rfl, r3, r4⟩ := Reps.consI r2
    exact Reps.cons r1 (Reps.evry r4)
theorem vals_evry : ∀ {xs : List V} {us : List Value}, Vals xs us → Vals (evry xs) (evry us)
  | [], _, .nil => .nil
  | [_], _, .cons r .nil => .cons r .nil
  | _ :: _ :: _, _, .cons r (.cons _ t) => .cons r (vals_evry t)
/-- where a slice begins -/
abbrev st0 (n : Nat) (l : Option Int) : Nat := min (lo0 l) n
theorem drop_st {α : Type} (l : List α) (o : Option Int) : l.drop (st0 l.length o) = l.drop (lo0 o) := by
  unfold st0
  by_cases h : lo0 o ≤ l.length
  · rw [Nat.min_eq_left h]
  · rw [Nat.min_eq_right (by omega), List.drop_length, List.drop_eq_nil_of_le (by omega)]
theorem adj2 {l : Option Int} (h : loOk l = true) (n : Nat) : Builtin.Slice.sliceAdjust l none 2 (n : Int) = (((st0 n l : Nat) : Int), (n : Int)) := by
  unfold Builtin.Slice.sliceAdjust
  have h1 : ¬ ((2 : Int) < 0) := by omega
  simp only [h1, if_false]
  refine Prod.ext ?_ rfl
  cases l with
  | none => simp [st0, lo0]
  | some v =>
    have hv : 0 ≤ v := of_decide_eq_true h
    show (if v < 0 then max (v + (n : Int)) 0 else min v (n : Int)) = ((min v.toNat n : Nat) : Int)
    rw [if_neg (by omega)]
    omega
theorem places2 (j n : Nat) (h : j ≤ n) : Builtin.Slice.slicePlaces (j : Int) (n : Int) 2 = (n - j + 1) / 2 := by
  unfold Builtin.Slice.slicePlaces
  have h1 : (2 : Int) > 0 := by omega
  simp only [h1, if_true]
  split <;> omega
theorem ix2 {l : Option Int} (h : loOk l = true) (n : Nat) : Builtin.Str.strSliceIndices l none 2 n = (List.range ((n - st0 n l + 1) / 2)).map fun m => st0 n l + 2 * m := by
  have e : Builtin.Str.strSliceIndices l none 2 n = sliceRange ((st0 n l : Nat) : Int) (n : Int) 2 := by
    unfold Builtin.Str.strSliceIndices
    have h1 : (2 : Int) > 0 := by omega
    simp only [h1, if_true]
    cases l with
    | none => simp [st0, lo0]
    | some v =>
      have hv : 0 ≤ v := of_decide_eq_true h
      show sliceRange (max 0 (min (if v < 0 then v + (n : Int) else v) (n : Int))) _ _ = sliceRange ((min v.toNat n : Nat) : Int) _ _
      rw [if_neg (by omega)]
      congr 1
      omega
  rw [e]
  unfold sliceRange
  have h1 : (2 : Int) > 0 := by omega
  simp only [h1, if_true]
  have e2 : (if ((st0 n l : Nat) : Int) < (n : Int) then ((n : Int) - ((st0 n l : Nat) : Int) + 2 - 1) / 2 else 0).toNat = (n - st0 n l + 1) / 2 := by
    have : st0 n l ≤ n := Nat.min_le_right ..
    split <;> omega
  rw [e2]
  refine List.map_congr_left fun m _ => ?_
  omega
section
variable {prog : Program} {w : World} {A : Around} {E : Value → Shared → Prop} {s : Shared}
theorem getItem_tuple_two {t sl : Addr} {items : Array Value} {vl : Value} {l : Option Int} {st : Tok} {Q : Value → Shared → Prop} (ht : IsTup s.heap t items) (hs : s.heap.IsSliceOf sl vl .none (.int 2 st)) (pl : IsPart vl l) (hl : loOk l = true)
    (h : Q (.ref s.heap.objs.size) { s with heap := s.heap.push { cls := .type "tuple", data := .seq (evry (items.toList.drop (lo0 l))).toArray } })
    (hsz : items.size ≤ sizeLine) : wpAny (model prog w) A (getItem (.ref t) (.ref sl)) Q E s := by
  have ez : evry (items.toList.drop (lo0 l)) = evry (items.toList.drop (st0 items.size l)) := by
    rw [← Array.length_toList, drop_st]
  rw [ez] at h
  have htake : sizeOk (.seq (evry (items.toList.drop (st0 items.size l))).toArray) := by
    show (evry (items.toList.drop (st0 items.size l))).toArray.size ≤ sizeLine
    have := evry_le (items.toList.drop (st0 items.size l))
    rw [List.length_drop] at this
    have e0 : items.toList.length = items.size := Array.length_toList
    rw [List.size_toArray]
    omega
  obtain ⟨os, hos, hcs, hds⟩ := id hs
  have hTs : s.TypeIs (.ref sl) "slice" := ⟨os, hos, hcs⟩
  unfold getItem
  try with_reducible refine wpAny_holding ?_
  first | refine wpAny_bind (wpAny_pure ?_) | skip
  refine wpAny_bind (wpAny_sequenceKey ht.typeIs (by decide) ?_)
  refine wpAny_bind (wpAny_callSpecial?_slot (name := Str.ofString "__getitem__") ht.typeIs PyProof.Rows.slot_tuple_getitem
    (wpAny_call_entry PyProof.Rows.slot_tuple_getitem ht.typeIs entry_tuple_getitem ?_ (args_tuple_getitem _ _)))
  show wpAny _ _ (Builtin.Tuple.tupleItemsOf (.ref t) >>= _) _ _ s
  refine wpAny_bind (tupleItemsOf_ ht ?_)
  refine wpAny_bind (wpAny_typeOf hTs ?_)
  rw [if_pos (by decide)]
  have SA : ∀ {A : Around} {Q : Int × Int × Nat → Shared → Prop}, Q (((st0 items.size l : Nat) : Int), 2, (items.size - st0 items.size l + 1) / 2) s → wpAny (model prog w) A (Builtin.Slice.sliceApplied (.ref sl) (pure (items.size : Int))) Q E s := fun {A Q} q => by
    unfold Builtin.Slice.sliceApplied Builtin.Slice.sliceFields
    refine wpAny_bind (wpAny_bind (wpAny_field hos hds (x := vl) rfl (wpAny_bind (wpAny_field hos hds (x := .none) rfl (wpAny_bind (wpAny_field hos hds (x := .int 2 st) rfl (wpAny_pure ?_)))))))
    refine wpAny_bind (slicePart_int ?_)
    show wpAny _ _ (if ((2 : Int) == 0) = true then _ else _) _ _ s
    rw [if_neg (by decide)]
    refine wpAny_bind (HT.slicePart_ pl (wpAny_bind (slicePart_none (wpAny_bind (wpAny_pure ?_)))))
    show wpAny _ _ (match Builtin.Slice.sliceAdjust l none 2 (items.size : Int) with | (lo, hi) => pure (lo, (2 : Int), Builtin.Slice.slicePlaces lo hi 2)) _ _ s
    rw [adj2 hl]
    show wpAny _ _ (pure (((st0 items.size l : Nat) : Int), (2 : Int), Builtin.Slice.slicePlaces ((st0 items.size l : Nat) : Int) (items.size : Int) 2)) _ _ s
    rw [places2 _ _ (Nat.min_le_right ..)]
    exact wpAny_pure q
  refine wpAny_bind (SA ?_)
  have hno : ¬ ((((st0 items.size l : Nat) : Int) == 0 && (2 : Int) == 1 && (items.size - st0 items.size l + 1) / 2 == items.size) = true) := by
    rw [show ((2 : Int) == 1) = false from rfl, Bool.and_false, Bool.false_and]
    exact Bool.false_ne_true
  show wpAny _ _ (if (((st0 items.size l : Nat) : Int) == 0 && (2 : Int) == 1 && (items.size - st0 items.size l + 1) / 2 == items.size) = true then _ else _) _ _ s
  have ep : ((List.range ((items.size - st0 items.size l + 1) / 2)).filterMap fun (m : Nat) => items[(((st0 items.size l : Nat) : Int) + (m : Int) * 2).toNat]?) = evry (items.toList.drop (st0 items.size l)) := by
    rw [← pick2]
    congr 1
    funext m
    rw [show (((st0 items.size l : Nat) : Int) + (m : Int) * 2).toNat = st0 items.size l + 2 * m by omega]
  rw [if_neg hno, ep]
  first
    | exact wpAny_bind (m := Builtin.Tuple.tupleExact _) (wpAny_newObj_type (wpAny_pure ⟨_, rfl, wpAny_pure h⟩) htake)
    | exact wpAny_bind (m := Builtin.Tuple.tupleExact _) (wpAny_newObj_type (wpAny_bind (wpAny_pure (wpAny_pure ⟨_, rfl, wpAny_pure h⟩))) htake)
    | exact wpAny_bind (wpAny_bind (m := Builtin.Tuple.tupleExact _) (wpAny_newObj_type (wpAny_pure (wpAny_pure ⟨_, rfl, wpAny_pure h⟩)) htake))
    | exact wpAny_bind (wpAny_bind (m := Builtin.Tuple.tupleExact _) (wpAny_newObj_type (wpAny_pure ⟨_, rfl, wpAny_pure h⟩) htake))
end
section
variable {X : Cx}
def rStp (K : PySem.W.Frag) : V → Option Int → Hp → VK → Prop := fun x l H Q => loOk l = true ∧ ((∃ z, x = .str z ∧ z.length ≤ sizeLine ∧ Q (.str ⟨(evry (z.cps.toList.drop (lo0 l))).toArray⟩) H) ∨
  ∃ a xs, x = .ref a ∧ SqT K H a xs ∧ ∀ p, H p = none → Q (.ref p) (upd H p (.tup (evry (xs.drop (lo0 l))))))
theorem pe_stp {e : Expr} {te : TE} {lo : Option Expr} {tl : TO} {k : Nat} {p1 p3 pos : Pos} (he : PE X e te) (hl : PO X lo tl) : PE X (.Subscript e (.Slice lo none (some (.Constant (.int 2) k p1)) p3) pos) (fun σ H Q => te σ H fun x H1 => tl σ H1 fun l H2 => rStp X.K x l H2 Q) := by
  refine ⟨fun pins s σ H Q I h => ?_⟩
  refine Subscript_ (thn (he.run pins s σ H _ I h) fun v s1 ⟨x, H1, I1, r1, q1⟩ => ?_)
  have hst : PO X (some (.Constant (.int 2) k p1)) (tPart (tC (.int 2))) := po_some pe_int
  refine wpAny_Slice (thn (hl.run pins s1 σ H1 _ I1 q1) fun vl s2 ⟨l, H2, I2, pl, q2⟩ => ?_)
  refine thn (po_none.run pins s2 σ H2 (fun o H3 => o = none ∧ H3 = H2) I2 ⟨rfl, rfl⟩) fun vu s3 ⟨u, H3, I3, pu, eu, e3⟩ => ?_
  subst eu e3
  refine thn (hst.run pins s3 σ H3 (fun o H4 => o = some 2 ∧ H4 = H3) I3 ⟨2, rfl, rfl, rfl⟩) fun vs s4 ⟨o, H4, I4, ps, eo, e4⟩ => ?_
  subst eo e4
  have I5 : Inv X pins σ H4 { s4 with heap := s4.heap.push { cls := .type "slice", data := .fields #[vl, vu, vs] } } := I4.kept (t' := s4.toks) fun b ob q => Heap.get?_push_of_some _ q
  have hsl := Heap.IsSliceOf.new s4.heap vl vu vs
  obtain ⟨ok, q2⟩ := q2
  cases pu
  cases ps with
  | int i st =>
  show wpAny (model X.prog X.w) X.A (subscriptTail e (.Slice lo none (some (.Constant (.int 2) k p1)) p3) v (.ref s4.heap.objs.size)) (EP X pins σ Q) X.xe { s4 with heap := s4.heap.push { cls := .type "slice", data := .fields #[vl, .none, .int 2 st] } }
  rcases q2 with ⟨z, rfl, hz, q⟩ | ⟨a, xs, rfl, hx, q⟩
  · obtain ⟨t, rfl⟩ := r1
    refine tail_any (ops := [.str z t, .ref s4.heap.objs.size]) (typeIs_str _ _ _) F.slot_str_getitem.lookup ?_ (by with_unfolding_all rfl)
    obtain ⟨os, hos, hcs, hds⟩ := hsl
    obtain ⟨l', rfl, rfl⟩ := IsPart.raw pl
    refine wpAny_getItem_str_slice (l := l') (u := none) (st := some (2, st)) ⟨os, hos, hcs, hds⟩ rfl ?_
    have zl : z.cps.size = z.length := rfl
    have e : ((Builtin.Str.strSliceIndices (l'.map (·.1)) none 2 z.length).filterMap (z.cps[·]?)) = evry (z.cps.toList.drop (lo0 (l'.map (·.1)))) := by
      rw [ix2 ok, List.filterMap_map, ← drop_st, Array.length_toList, ← pick2, zl]
      rfl
    have hlen : (⟨(evry (z.cps.toList.drop (lo0 (l'.map (·.1))))).toArray⟩ : Str).length ≤ sizeLine := by
      have := evry_le (z.cps.toList.drop (lo0 (l'.map (·.1))))
      rw [List.length_drop] at this
      have e0 : z.cps.toList.length = z.cps.size := Array.length_toList
      rw [len_str_arr]
      omega
    show Made.post (if ((2 : Int) == 1 && (Builtin.Str.strSliceIndices (l'.map (·.1)) none 2 z.length).length == z.length) = true then Made.val (.str z t)
      else Made.str ⟨((Builtin.Str.strSliceIndices (l'.map (·.1)) none 2 z.length).filterMap (z.cps[·]?)).toArray⟩) (EP X pins σ Q) _
    rw [show ((2 : Int) == 1) = false from rfl, Bool.false_and, if_neg Bool.false_ne_true, e]
    exact ⟨hlen, .str _, _, I5.tok _, ⟨_, rfl⟩, q⟩
  · cases r1
    obtain ⟨its, r, ht, hz⟩ := I5.tuple hx
    refine tail_any (ops := [.ref a, .ref s4.heap.objs.size]) ht.typeIs PyProof.Rows.slot_tuple_getitem.lookup ?_ (by with_unfolding_all rfl)
    have hlen := r.length
    refine getItem_tuple_two ht hsl pl ok ?_ (by rw [List.size_toArray, ← hlen]; exact hz)
    refine ⟨.ref _, _, I5.laid (t' := s4.toks) (o := .tup (evry (xs.drop (lo0 l)))) (fun b ob q => Heap.get?_push_of_some _ q) (Nat.le_refl _) ?_, rfl, q _ (I5.hok.fresh (Nat.le_refl _))⟩
    refine ⟨?_, evry (its.drop (lo0 l)), vals_evry (r.drop _), ?_⟩
    · have := evry_le (xs.drop (lo0 l))
      rw [List.length_drop] at this
      omega
    · have := IsTup.new (s4.heap.push { cls := .type "slice", data := .fields #[vl, .none, .int 2 st] }) (evry (its.drop (lo0 l))).toArray
      simpa using this
variable {W : WX} {xa : Nat → Addr} {hx : Option Hx} {η : Option (Nat × Flds)} {fa : LX.Env → MH → Res D} {a : Expr} {pos : Pos}
theorem stpD_rep {M : MH} {β : Bt} {H : Hp} {x : D} {v : V} {l : Option Int} {Q : VK} {σ0 : L2.St} (hp : HeapR X.K H β M) (r1 : Rep X.K H β M.length x v) (h : Post X.K W xa (RD X.K) σ0 H β M.length (stpD M x l) Q) : rStp X.K v l H Q := by
  unfold stpD at h
  obtain ⟨ok, h⟩ := Post.ite h
  refine ⟨ok, ?_⟩
  cases x with
  | str s =>
    obtain ⟨hz, rfl⟩ := r1.strI
    have le := evry_le (s.drop (lo0 l))
    rw [List.length_drop] at le
    refine .inl ⟨_, rfl, by rw [len_str_arr, lim_eq]; exact hz, ?_⟩
    have q := h.okR hp (Rep.mkStr (show (evry (s.drop (lo0 l))).length ≤ lim by omega))
    simpa using q
  | tup xs =>
    obtain ⟨p, vs, rfl, q, rs⟩ := r1.tupI
    have h' : Post X.K W xa (RD X.K) σ0 H β M.length (.ok (.tup (evry (xs.drop (lo0 l)))) M) Q := h
    exact .inr ⟨p, vs, rfl, q, h'.tup hp (Reps.evry (rs.drop _))⟩
  | _ => exact h.elim
theorem d_stp {s : Sys} {c : Cf} {lo : Option Expr} {lx : Option E} {k : Nat} {p1 p3 : Pos} (ha : PE X a (tD X.K W xa hx η fa)) (hl : ∀ e x, lo = some e → lx = some x → PE X e (tD X.K W xa hx η (s.e c x))) (hl0 : lo.isSome = lx.isSome) :
    PE X (.Subscript a (.Slice lo none (some (.Constant (.int 2) k p1)) p3) pos) (tD X.K W xa hx η fun ρ M => (fa ρ M).bind fun x M => (optE s c lx ρ M).bind fun l M => stpD M x l) :=
  PE.imp (pe_stp ha (d_po hl hl0)) fun σ H Q h => tR.seq h fun β ρ M x v H1 sr r1 h1 => tR.seq2 sr h1 fun β2 M2 l l' H2 sr2 mo _ r2 h2 => by
    have e1 : l = l' := r2
    subst e1
    exact stpD_rep sr2.heap (mo r1) h2
end
end LX

set_option Elab.async false
set_option linter.all false
set_option maxRecDepth 100000
set_option maxHeartbeats 2000000
/-! LxCall: chains, calls, methods, kinds, comprehensions. -/
namespace LX
open PySem L2 PyProof.Rows
/-- a def's promise: what the function F hands back -/
def spF (K : PySem.W.Frag) (xa : Nat → Addr) (np : Nat) (F : List D → MH → Res D) : Sp := fun vs H Q E => vs.length = np ∧ ∃ β M ds, HeapR K H β M ∧ Reps K H β M.length ds vs ∧ Post K (fun cls d _ H' => E cls d H') xa (RD K) [] H β M.length (F ds M) Q
def bfN : Bf → Str
  | .len => "len" | .abs => "abs" | .int => "int" | .max2 => "max" | .min2 => "min" | .maxL => "max" | .minL => "min"
  | .sum => "sum" | .sorted => "sorted" | .list => "list" | .tuple => "tuple" | .str => "str"
theorem bf_boot : ∀ b : Bf, bootBuiltins (bfN b) = some (bfV b)
  | .len => by decide +kernel | .abs => by decide +kernel | .int => by decide +kernel | .max2 => by decide +kernel | .min2 => by decide +kernel | .maxL => by decide +kernel | .minL => by decide +kernel
  | .sum => by decide +kernel | .sorted => by decide +kernel | .list => by decide +kernel | .tuple => by decide +kernel | .str => by decide +kernel
theorem bf_name : ∀ b : Bf, bfN b ≠ "__name__" := fun b => by cases b <;> decide +kernel
theorem bf_dbg : ∀ b : Bf, (bfN b == ("__debug__" : Str)) = false := fun b => by cases b <;> decide +kernel
section
variable {X : Cx} {W : WX} {xa : Nat → Addr} {hx : Option Hx} {η : Option (Nat × Flds)} {e a b e3 o : Expr} {es : List Expr} {pos p apos : Pos} {fa fb fc : Env → MH → Res D} {fs : Env → MH → Res (List D)}
theorem d_chain {op op' : CmpOp} (hu : X.A.units + 65 < cLine) (ha : PE X a (tD X.K W xa hx η fa)) (hb : PE X b (tD X.K W xa hx η fb)) (hc : PE X e3 (tD X.K W xa hx η fc)) (hm : lastMarks [op, op'] [b, e3] = false) :
    PE X (.Compare a [op, op'] [b, e3] pos) (tD X.K W xa hx η fun ρ M => (fa ρ M).bind fun x M => (fb ρ M).bind fun y M => (ofO (cmpD M op x y) M).bind fun k M =>
      if k then (fc ρ M).bind fun z M => (ofO (cmpD M op' y z) M).bind fun k M => .ok (.bl k) M else .ok (.bl false) M) :=
  PE.imp (pe_chain (cmp_all hu op) (cmp_all hu op') ha hb hc hm) fun σ H Q h => tR.seq h fun β ρ M x v H1 sr r1 h1 => tR.seq2 sr h1 fun β2 M2 y u H2 sr2 mo _ r2 h2 => by
    obtain ⟨k, e1, h2⟩ := h2.ofO
    refine ⟨β2, M2, x, y, k, sr2.heap, mo r1, r2, e1, k, rfl, ?_⟩
    cases k with
    | true =>
      exact tR.seq2 sr2 h2 fun β3 M3 z w H3 sr3 mo3 _ r3 h3 => by
        obtain ⟨k3, e3, h3⟩ := h3.ofO
        exact ⟨β3, M3, y, z, k3, sr3.heap, mo3 r2, r3, e3, h3.okR sr3.heap (show RD X.K H3 β3 M3.length (D.bl k3) (V.bl k3) from rfl)⟩
    | false => exact h2.okR sr2.heap (show RD X.K H2 β2 M2.length (D.bl false) (V.bl false) from rfl)
theorem t_chain {op op' : CmpOp} (hu : X.A.units + 65 < cLine) (ha : PE X a (tD X.K W xa hx η fa)) (hb : PE X b (tD X.K W xa hx η fb)) (hc : PE X e3 (tD X.K W xa hx η fc)) (hm : lastMarks [op, op'] [b, e3] = false) :
    PT X (.Compare a [op, op'] [b, e3] pos) (tT X.K W xa hx η fun ρ M => (fa ρ M).bind fun x M => (fb ρ M).bind fun y M => (ofO (cmpD M op x y) M).bind fun k M =>
      if k then (fc ρ M).bind fun z M => (ofO (cmpD M op' y z) M).bind fun k M => .ok (.bl k) M else .ok (.bl false) M) :=
  PT.imp (pt_chain (cmp_all hu op) (cmp_all hu op') ha hb hc hm) fun σ H Q h => tR.seq h fun β ρ M x v H1 sr r1 h1 => tR.seq2 sr h1 fun β2 M2 y u H2 sr2 mo _ r2 h2 => by
    obtain ⟨k, e1, h2⟩ := h2.ofO
    refine ⟨β2, M2, x, y, k, sr2.heap, mo r1, r2, e1, k, rfl, ?_⟩
    cases k with
    | true =>
      exact tR.seq2 sr2 h2 fun β3 M3 z w H3 sr3 mo3 _ r3 h3 => by
        obtain ⟨k3, e3, h3⟩ := h3.ofO
        exact ⟨β3, M3, y, z, k3, sr3.heap, mo3 r2, r3, e3, h3.okR sr3.heap (show RD X.K H3 β3 M3.length (D.bl k3) (V.bl k3) from rfl)⟩
    | false => exact h2.okR sr2.heap (show RD X.K H2 β2 M2.length (D.bl false) (V.bl false) from rfl)
/-! ### built-ins -/
theorem star1 {e : Expr} {es : List Expr} {env : PySem.Env} (h : ∀ x q, e ≠ .Starred x q) : starEach (e :: es) env = (false, eval e env) :: starEach es env := by
  cases e with
  | Starred x q => exact absurd rfl (h x q)
  | _ => rfl
def noStar : Expr → Bool
  | .Starred _ _ => false
  | _ => true
theorem noStar_ne {e : Expr} (h : noStar e = true) : ∀ x q, e ≠ .Starred x q := fun x q z => by rw [z] at h; cases h
theorem star_any {env : PySem.Env} {pos : Pos} : ∀ {es : List Expr}, es.all noStar = true → (backTo pos (starEach es env)).any (·.1) = false
  | [], _ => rfl
  | e :: es, h => by
    rw [List.all_cons, Bool.and_eq_true] at h
    rw [star1 (noStar_ne h.1)]
    show (false || (backTo pos (starEach es env)).any (·.1)) = false
    rw [star_any h.2]
    rfl
theorem d_fn {m : Bool} {b : Bf} (hc : X.calm = true) (hg : Gl X (bfN b)) (hm : X.mg (bfN b) = none) (ha : PA X (e :: es) (tDs X.K W xa hx η fs)) (hst : (e :: es).all noStar = true) :
    PE X (.Call (.Name (bfN b) p) (e :: es) [] pos) (tD X.K W xa hx η fun ρ M => (fs ρ M).bind fun ds M => fnD m M b ds) := by
  rw [List.all_cons, Bool.and_eq_true] at hst
  have k : PE X (.Call (.Name (bfN b) p) (e :: es) [] pos) (tCB (fun vs H Q => ∃ β M ds, HeapR X.K H β M ∧ Reps X.K H β M.length ds vs ∧ Post X.K WT xa (RD X.K) [] H β M.length (fnD m M b ds) Q) (tDs X.K W xa hx η fs)) := by
    have r := fn_all (W := WT) (xa := xa) (σ0 := []) hc m b
    have hv := bf_boot b
    cases hb : bfV b with
    | builtin id =>
      rw [hb] at r hv
      exact pe_callB r hg hm hv ha (bf_name b) (bf_dbg b) (star1 (noStar_ne hst.1)) (star_any hst.2)
    | type T =>
      rw [hb] at r hv
      exact pe_callTy r hg hm hv ha (bf_name b) (bf_dbg b) (star1 (noStar_ne hst.1)) (star_any hst.2)
    | _ => cases b <;> cases hb
  exact PE.imp k fun σ H Q h => tR.seq h fun β ρ M ds vs H1 sr r1 h1 => ⟨β, M, ds, sr.heap, r1, h1.toT⟩
/-! ### calls of the text's own defs -/
theorem d_call {F : List D → MH → Res D} {k : Nat} {f : Addr} {fd : FuncData} {ps : List Str} {np : Nat} {x : Str} (hF : FnOk X.prog X.w X.K X.mg X.base (L2.CX X.prog X.w) k f fd ps (spF X.K xa np F)) (hr : Room k X.A) (hg : Gl X x) (hm : X.mg x = some (.ref f)) (hk : PySem.W.keepIn X.K (.ref f) = true) (hb : Binds X.K fd ps []) (tk : Takes X W)
    (hn : ∀ ds M, F ds M ≠ .stuck → ds.length = np) (ha : PA X (e :: es) (tDs X.K W xa hx η fs)) (hdb : (x == ("__debug__" : Str)) = false) (hst : (e :: es).all noStar = true) :
    PE X (.Call (.Name x p) (e :: es) [] pos) (tD X.K W xa hx η fun ρ M => (fs ρ M).bind fun ds M => F ds M) := by
  rw [List.all_cons, Bool.and_eq_true] at hst
  refine PE.imp (pe_callS hF hr hg hm hk hb (fun σ => passAt tk σ) ha hdb (star1 (noStar_ne hst.1)) (star_any hst.2)) fun σ H Q h => tR.seq h fun β ρ M ds vs H1 sr r1 h1 => ?_
  refine ⟨?_, β, M, ds, sr.heap, r1, ?_⟩
  · rw [r1.length]
    exact hn ds M fun z => by rw [z] at h1; exact h1
  · cases q : F ds M with
    | ok d M' => rw [q] at h1; exact h1
    | exn c fs M' => rw [q] at h1; exact h1
    | stuck => rw [q] at h1; exact h1.elim
theorem noExn_ne {α : Type} {r : Res α} {c : Nat} {fs : Flds} {M : MH} (h : noExn r = .exn c fs M) : False := by cases r <;> cases h
theorem fnOk_noExn {P : Program} {w : World} {K : PySem.W.Frag} {mg : Str → Option Value} {base : Heap} {CX : CXT} {k : Nat} {f : Addr} {fd : FuncData} {ps : List Str} {xa : Nat → Addr} {np : Nat} {F : List D → MH → Res D} (h : FnOk P w K mg base CX k f fd ps (spF K xa np F)) : FnOk P w K mg base CX k f fd ps (spF K xa np fun ds M => noExn (F ds M)) := by
  have key : ∀ {vs : List V} {H : Hp} {Q : VK} {E : XK}, spF K xa np (fun ds M => noExn (F ds M)) vs H Q E → spF K xa np F vs H Q E := fun {vs H Q E} ⟨hl, β, M, ds, hp, r, q⟩ => by
    refine ⟨hl, β, M, ds, hp, r, ?_⟩
    dsimp only at q
    cases e : F ds M with
    | ok d M' => rw [e] at q; exact q
    | exn c fs M' => rw [e] at q; exact q.elim
    | stuck => rw [e] at q; exact q.elim
  exact ⟨fun vs H Q E q => h.len vs H Q E (key q), fun A outer s H args us vs Q E hr e0 hb hv q => h.run A outer s H args us vs Q E hr e0 hb hv (key q)⟩
theorem d_call0 {F : List D → MH → Res D} {k : Nat} {f : Addr} {fd : FuncData} {ps : List Str} {np : Nat} {x : Str} (hF : FnOk X.prog X.w X.K X.mg X.base (L2.CX X.prog X.w) k f fd ps (spF X.K xa np F)) (hr : Room k X.A) (hg : Gl X x) (hm : X.mg x = some (.ref f)) (hk : PySem.W.keepIn X.K (.ref f) = true) (hb : Binds X.K fd ps []) (tk : Takes X (fun _ _ _ _ => False))
    (hn : ∀ ds M, F ds M ≠ .stuck → ds.length = np) (hdb : (x == ("__debug__" : Str)) = false) (hno : ∀ ds M c fs M', F ds M ≠ .exn c fs M') :
    PE X (.Call (.Name x p) [] [] pos) (tD X.K W xa hx η fun ρ M => F [] M) := by
  refine PE.imp (pe_call0 (E := fun _ _ _ => False) hF hr hg hm hk hb .nil (passes_call tk fun _ _ _ _ z => z) hdb) fun σ H Q ⟨β, ρ, M, sr, h⟩ => ?_
  refine ⟨?_, β, M, [], sr.heap, Reps.nil, ?_⟩
  · exact hn [] M fun z => by dsimp only at h; rw [z] at h; exact h
  · dsimp only at h
    cases q : F [] M with
    | ok d M' => rw [q] at h; exact h
    | exn c fs M' => exact absurd q (hno _ _ _ _ _)
    | stuck => rw [q] at h; exact h.elim
/-! ### methods -/
def mtN : Mt → Str
  | .append => "append" | .pop0 => "pop" | .pop1 => "pop" | .extend => "extend" | .join => "join"
theorem meth_list {M : MH} {β : Bt} {H : Hp} {t : Mt} {x : D} {v : V} (hp : HeapR X.K H β M) (r : Rep X.K H β M.length x v) (ht : t ≠ .join) (e : recvOk M t x = true) : tyV X.K "list" v H := by
  cases x with
  | ref n =>
    unfold Rep at r
    obtain ⟨hn, rfl⟩ := r
    obtain ⟨vs, q⟩ := hp.lt_of hn
    exact .inl ⟨rfl, vs, SqL.of q⟩
  | _ => cases t <;> first | exact absurd rfl ht | (cases e; done)
theorem methD_rep {t : Mt} {M : MH} {β : Bt} {H : Hp} {x : D} {v : V} {ds : List D} {vs : List V} {Q : VK} {σ0 : L2.St} (hp : HeapR X.K H β M) (r : Rep X.K H β M.length x v) (rs : Reps X.K H β M.length ds vs) (h : Post X.K W xa (RD X.K) σ0 H β M.length (methD M t x ds) Q) :
    match t with
    | .append => rAppend v vs H Q
    | .pop0 => rPop v vs H Q
    | .pop1 => rPopAt v vs H Q
    | .extend => rExtend v vs H Q
    | .join => ∃ a p, ∃ ys : List Str, v = .str a ∧ vs = [.ref p] ∧ (SqL X.K H p (ys.map V.str) ∨ SqT X.K H p (ys.map V.str)) ∧ (ys.map (·.length)).sum + ys.length * a.length ≤ 16777216 ∧ Q (.str (Txt.join a ys)) H := by
  have one : ∀ {d : D}, Reps X.K H β M.length [d] vs → ∃ v, vs = [v] ∧ Rep X.K H β M.length d v := fun {d} rs => by
    unfold Reps at rs
    obtain ⟨v, w, rfl, r1, r2⟩ := rs
    unfold Reps at r2
    subst r2
    exact ⟨v, rfl, r1⟩
  unfold methD at h
  split at h
  · obtain ⟨xs, e1, h⟩ := h.ofO
    obtain ⟨hz, h⟩ := Post.ite h
    obtain ⟨u, rfl, r1⟩ := one rs
    obtain ⟨hn, ws, q, r2⟩ := hp.lst e1
    unfold Rep at r
    refine ⟨_, ws, u, r.2, rfl, q, by rw [r2.length, lim_eq]; exact hz, ?_⟩
    exact h.wr hp hn (r2.append (.one r1)) rfl
  · obtain ⟨xs, e1, h⟩ := h.ofO
    obtain ⟨d, e2, h⟩ := h.ofO
    obtain ⟨hn, ws, q, r2⟩ := hp.lst e1
    obtain ⟨u, e3, r3⟩ := r2.get e2
    unfold Rep at r
    unfold Reps at rs
    refine ⟨_, ws, u, r.2, rs, q, by rw [r2.length]; exact e3, ?_⟩
    exact h.wr hp hn r2.dropLast r3
  · rename_i n i
    obtain ⟨xs, e1, h⟩ := h.ofO
    obtain ⟨k, e2, h⟩ := h.ofO
    obtain ⟨d, e4, h⟩ := h.ofO
    obtain ⟨hn, ws, q, r2⟩ := hp.lst e1
    obtain ⟨u, e3, r3⟩ := r2.get e4
    obtain ⟨w, rfl, r4⟩ := one rs
    obtain rfl := r4.intI
    unfold Rep at r
    have e5 : fits i = true ∧ ixN xs.length i = some k := by
      split at e2
      · exact ⟨by assumption, e2⟩
      · cases e2
    obtain ⟨hf, e2⟩ := e5
    unfold fits at hf
    rw [Bool.and_eq_true, decide_eq_true_eq, decide_eq_true_eq] at hf
    obtain ⟨i1, i2, i3, i4⟩ := ixN_seq e2
    refine ⟨_, ws, _, k, u, r.2, rfl, q, by omega, by omega, by rw [r2.length]; exact i1, e3, ?_⟩
    exact h.wr hp hn (r2.eraseIdx k) r3
  · obtain ⟨xs, e1, h⟩ := h.ofO
    obtain ⟨ys, e2, h⟩ := h.ofO
    obtain ⟨hz, h⟩ := Post.ite h
    obtain ⟨u, rfl, r1⟩ := one rs
    obtain ⟨hn, ws, q, r2⟩ := hp.lst e1
    obtain ⟨p, us, rfl, q2, r3⟩ := r1.tlO hp e2
    unfold Rep at r
    refine ⟨_, p, ws, us, r.2, rfl, q, q2, by rw [r2.length, r3.length, lim_eq]; exact hz, ?_⟩
    exact h.wr hp hn (r2.append r3) rfl
  · obtain ⟨l, e1, h⟩ := h.ofO
    obtain ⟨hz, h⟩ := Post.ite h
    obtain ⟨u, rfl, r1⟩ := one rs
    obtain ⟨xs, e3, e4⟩ := Option.bind_eq_some_iff.mp e1
    obtain ⟨p, us, rfl, q2, r3⟩ := r1.seqO hp e3
    have e5 := r3.strsR e4
    obtain ⟨_, rfl⟩ := r.strI
    subst e5
    refine ⟨_, p, _, rfl, rfl, q2, ?_, ?_⟩
    · rw [List.length_map, List.map_map, len_str_arr]
      have e6 : ((fun s : Str => s.length) ∘ fun s : List Nat => (⟨s.toArray⟩ : Str)) = List.length := funext fun s => len_str_arr s
      rw [e6]
      exact hz
    · rw [joinS_eq]
      exact h.okR hp (Rep.mkStr (Nat.le_trans (joinS_len _ _) hz))
  · exact h.elim
end
end LX

set_option Elab.async false
set_option linter.all false
set_option maxRecDepth 100000
set_option maxHeartbeats 2000000
/-! LxIter: methods, kinds, what is walked, comprehensions. -/
namespace LX
open PySem L2 PyProof.Rows
/-! ### side conditions -/
def okBase : Expr → Bool
  | .Call (.Name _ _) [] [] _ => false
  | _ => true
theorem base_of {o : Expr} {n : Str} {env : PySem.Env} (h : okBase o = true) : attributeBase o n env (eval o env) = eval o env := by
  generalize eval o env = w
  cases o with
  | Call f as ks p =>
    cases f with
    | Name x q =>
      cases as with
      | nil =>
        cases ks with
        | nil => cases h
        | cons _ _ => rfl
      | cons _ _ => rfl
    | _ => rfl
  | _ => rfl
theorem few_of {env : PySem.Env} {pos : Pos} {es : List Expr} (h : es.all noStar = true) (hl : es.length < 29) :
    ((backTo pos (starEach es env)).all (fun x => !x.1) && (backToKw pos (keywordEach [] env)).all (fun x => x.1.isSome) && decide (es.length + ([] : List Keyword).length + (if ([] : List Keyword).isEmpty then 0 else 1) < 30)) = true := by
  have h1 : (backTo pos (starEach es env)).all (fun x => !x.1) = true := by
    clear hl
    induction es with
    | nil => rfl
    | cons e es ih =>
      rw [List.all_cons, Bool.and_eq_true] at h
      rw [star1 (noStar_ne h.1)]
      show (!false && (backTo pos (starEach es env)).all (fun x => !x.1)) = true
      rw [ih h.2]
      rfl
  rw [h1]
  show (true && true && decide (es.length + 0 + 0 < 30)) = true
  rw [decide_eq_true (by omega)]
  rfl
section
variable {X : Cx} {W : WX} {xa : Nat → Addr} {hx : Option Hx} {η : Option (Nat × Flds)} {e a b e3 o : Expr} {es : List Expr} {pos p apos cpos : Pos} {fa fb fc : Env → MH → Res D} {fs : Env → MH → Res (List D)}
/-! ### methods -/
theorem meth_str {M : MH} {β : Bt} {H : Hp} {x : D} {v : V} (r : Rep X.K H β M.length x v) (e : recvOk M .join x = true) : tyV X.K "str" v H := by
  cases x with
  | str s => rw [r.strI.2]; exact rfl
  | _ => cases e
theorem d_meth0 (ho : PE X o (tD X.K W xa hx η fa)) (hb : okBase o = true) (hl : (apos.endLine == cpos.line) = true) :
    PE X (.Call (.Attribute o (mtN .pop0) apos) [] [] cpos) (tD X.K W xa hx η fun ρ M => (fa ρ M).bind fun x M => if recvOk M .pop0 x then (Res.ok [] M).bind fun ds M => methD M .pop0 x ds else .stuck) :=
  PE.imp (pe_bm0 PySem.F.plainAttrs_list PySem.F.slot_list_pop PySem.F.type_list_pop mt_pop ho (base_of hb) hl) fun σ H Q h => tR.seq h fun β ρ M x v H1 sr r1 h1 => by
    obtain ⟨hr, h1⟩ := Post.ite h1
    exact ⟨meth_list sr.heap r1 (by decide) hr, methD_rep (t := .pop0) sr.heap r1 Reps.nil h1⟩
theorem d_meth {t : Mt} (ht : t ≠ .pop0) (ho : PE X o (tD X.K W xa hx η fa)) (ha : PA X (e :: es) (tDs X.K W xa hx η fs)) (hb : okBase o = true) (hl : (apos.endLine == cpos.line) = true) (hst : (e :: es).all noStar = true) (hn : (e :: es).length < 29) :
    PE X (.Call (.Attribute o (mtN t) apos) (e :: es) [] cpos) (tD X.K W xa hx η fun ρ M => (fa ρ M).bind fun x M => if recvOk M t x then (fs ρ M).bind fun ds M => methD M t x ds else .stuck) := by
  have hst2 := hst
  rw [List.all_cons, Bool.and_eq_true] at hst2
  cases t with
  | pop0 => exact absurd rfl ht
  | append =>
    exact PE.imp (pe_bm PySem.F.plainAttrs_list PySem.F.slot_list_append PySem.F.type_list_append mt_append ho ha (base_of hb) (few_of hst hn) hl (star1 (noStar_ne hst2.1)) (star_any hst2.2)) fun σ H Q h => tR.seq h fun β ρ M x v H1 sr r1 h1 => by
      obtain ⟨hrv, h1⟩ := Post.ite h1
      exact ⟨meth_list sr.heap r1 (by decide) hrv, tR.seq2 sr h1 fun β2 M2 ds vs H2 sr2 mo _ r2 h2 => methD_rep (t := .append) sr2.heap (mo r1) r2 h2⟩
  | pop1 =>
    exact PE.imp (pe_bm PySem.F.plainAttrs_list PySem.F.slot_list_pop PySem.F.type_list_pop mt_popAt ho ha (base_of hb) (few_of hst hn) hl (star1 (noStar_ne hst2.1)) (star_any hst2.2)) fun σ H Q h => tR.seq h fun β ρ M x v H1 sr r1 h1 => by
      obtain ⟨hrv, h1⟩ := Post.ite h1
      exact ⟨meth_list sr.heap r1 (by decide) hrv, tR.seq2 sr h1 fun β2 M2 ds vs H2 sr2 mo _ r2 h2 => methD_rep (t := .pop1) sr2.heap (mo r1) r2 h2⟩
  | extend =>
    exact PE.imp (pe_bm PySem.F.plainAttrs_list PySem.F.slot_list_extend PySem.F.type_list_extend mt_extend ho ha (base_of hb) (few_of hst hn) hl (star1 (noStar_ne hst2.1)) (star_any hst2.2)) fun σ H Q h => tR.seq h fun β ρ M x v H1 sr r1 h1 => by
      obtain ⟨hrv, h1⟩ := Post.ite h1
      exact ⟨meth_list sr.heap r1 (by decide) hrv, tR.seq2 sr h1 fun β2 M2 ds vs H2 sr2 mo _ r2 h2 => methD_rep (t := .extend) sr2.heap (mo r1) r2 h2⟩
  | join =>
    exact PE.imp (pe_bm PySem.F.plainAttrs_str PySem.F.slot_str_join PySem.F.type_str_join mt_join ho ha (base_of hb) (few_of hst hn) hl (star1 (noStar_ne hst2.1)) (star_any hst2.2)) fun σ H Q h => tR.seq h fun β ρ M x v H1 sr r1 h1 => by
      obtain ⟨hrv, h1⟩ := Post.ite h1
      exact ⟨meth_str r1 hrv, tR.seq2 sr h1 fun β2 M2 ds vs H2 sr2 mo _ r2 h2 => methD_rep (t := .join) sr2.heap (mo r1) r2 h2⟩
/-! ### kinds -/
def tyN : D → String
  | .non => "NoneType" | .bl _ => "bool" | .int _ => "int" | .str _ => "str" | .tup _ => "tuple" | .tl _ => "list" | .fl _ => "list" | .ref _ => "list" | .edic => "dict"
def kdN : Kind → String
  | .int => "int" | .str => "str" | .tuple => "tuple" | .list => "list" | .bool => "bool"
theorem rep_ty {H : Hp} {β : Bt} {M : MH} {d : D} {v : V} (hp : HeapR X.K H β M) (r : Rep X.K H β M.length d v) : TyX X.K H v (.type (tyN d)) := by
  cases d with
  | non => rw [show v = V.non from r]; exact .base .non
  | bl b => rw [show v = V.bl b from r]; exact .base (.bl b)
  | int i => rw [r.intI]; exact .base (.int i)
  | str s => rw [r.strI.2]; exact .base (.str _)
  | tup xs =>
    obtain ⟨a, vs, rfl, q, _⟩ := r.tupI
    rcases q with (q | ⟨o, q⟩) | ⟨o, its, n, q, c, _⟩
    · exact .base (.tup q)
    · exact .fTuple q
    · exact .kTuple q c
  | tl xs => unfold Rep at r; obtain ⟨a, vs, rfl, q, _⟩ := r; exact .base (.lst q)
  | fl xs =>
    unfold Rep at r
    obtain ⟨a, vs, rfl, q, _⟩ := r
    rcases q with ⟨o, q⟩ | ⟨o, its, n, q, c, _⟩
    · exact .base (.frz q)
    · exact .kList q c
  | ref n =>
    unfold Rep at r
    obtain ⟨hn, rfl⟩ := r
    obtain ⟨vs, q⟩ := hp.lt_of hn
    exact .base (.lst q)
  | edic => unfold Rep at r; obtain ⟨a, rfl, q, _⟩ := r; exact .base (.dK q)
theorem kit_tab : ∀ (a : String), a ∈ ["NoneType", "bool", "int", "str", "tuple", "list", "dict"] → ∀ k ∈ [Kind.int, .str, .tuple, .list, .bool], kitB a (kdN k) = some (a == kdN k || (a == "bool" && kdN k == "int")) := by
  decide +kernel
theorem kit_d (d : D) (k : Kind) {K : PySem.W.Frag} : PySem.W.kitOne K (.type (tyN d)) (.type (kdN k)) = some (isKind [k] d) := by
  refine kit_ty ?_
  rw [kit_tab (tyN d) (by cases d <;> simp [tyN]) k (by cases k <;> decide)]
  cases d <;> cases k <;> rfl
theorem kit_ds (d : D) {K : PySem.W.Frag} : ∀ ks : List Kind, PySem.W.kitAny K (.type (tyN d)) (ks.map fun k => Value.type (kdN k)) = some (isKind ks d)
  | [] => rfl
  | k :: ks => by
    have h1 : isKind (k :: ks) d = (isKind [k] d || isKind ks d) := by
      unfold isKind
      rw [List.any_cons, List.any_cons, List.any_nil, Bool.or_false]
    refine kitAny_cons (kit_d d k) (fun e => ?_) (fun e => ?_)
    · rw [h1, e, Bool.false_or]
      exact kit_ds d ks
    · rw [h1, e, Bool.true_or]
theorem d_cls {k : Kind} (hg : Gl X (Str.ofString (kdN k))) (hm : X.mg (Str.ofString (kdN k)) = none) : PE X (.Name (Str.ofString (kdN k)) p) (tC (.ty (kdN k))) :=
  pe_bltn (u := .type (kdN k)) hg hm (by cases k <;> decide +kernel) rfl (by cases k <;> decide +kernel) (by cases k <;> decide +kernel)
theorem d_isi1 {k : Kind} {p2 : Pos} (hg : Gl X "isinstance") (hm : X.mg "isinstance" = none) (hg2 : Gl X (Str.ofString (kdN k))) (hm2 : X.mg (Str.ofString (kdN k)) = none) (ha : PE X e (tD X.K W xa hx η fa)) (hst : noStar e = true) :
    PE X (.Call (.Name "isinstance" p) [e, .Name (Str.ofString (kdN k)) p2] [] pos) (tD X.K W xa hx η fun ρ M => (fa ρ M).bind fun x M => .ok (.bl (isKind [k] x)) M) :=
  PE.imp (pe_callB call_isi hg hm PyProof.Rows.boot_isinstance (pa_cons ha (pa_cons (d_cls hg2 hm2) pa_nil) (star1 (noStar_ne hst))) (by decide +kernel) (by decide +kernel) (star1 (noStar_ne hst)) rfl)
    fun σ H Q h => tR.seq h fun β ρ M x v H1 sr r1 h1 => ⟨v, .ty (kdN k), _, _, isKind [k] x, rfl, .ty _, rep_ty sr.heap r1, kit_d x k, h1.okR sr.heap (show RD X.K H1 β M.length (D.bl _) (V.bl _) from rfl)⟩
/-- the classes of a written tuple -/
theorem d_clss : ∀ {ks : List Kind} {ns : List Expr}, ns.length = ks.length → (∀ (i : Nat) (k : Kind) (n : Expr), ks[i]? = some k → ns[i]? = some n → ∃ p, n = .Name (Str.ofString (kdN k)) p) → (∀ k ∈ ks, Gl X (Str.ofString (kdN k)) ∧ X.mg (Str.ofString (kdN k)) = none) →
    PA X ns (fun σ H Q => Q (ks.map fun k => V.ty (kdN k)) H)
  | [], [], _, _, _ => pa_nil
  | k :: ks, n :: ns, hl, hn, hk => by
    obtain ⟨p, rfl⟩ := hn 0 k n rfl rfl
    obtain ⟨h1, h2⟩ := hk k List.mem_cons_self
    exact pa_cons (d_cls h1 h2) (d_clss (by simpa using hl) (fun i k' n' a b => hn (i + 1) k' n' (by simpa using a) (by simpa using b)) fun k' hk' => hk k' (List.mem_cons_of_mem _ hk')) rfl
  | [], _ :: _, hl, _, _ => by cases hl
  | _ :: _, [], hl, _, _ => by cases hl
theorem d_isiN {ks : List Kind} {ns : List Expr} {k0 : Nat} {tp : Pos} (hg : Gl X "isinstance") (hm : X.mg "isinstance" = none) (hl : ns.length = ks.length) (hn : ∀ (i : Nat) (k : Kind) (n : Expr), ks[i]? = some k → ns[i]? = some n → ∃ p, n = .Name (Str.ofString (kdN k)) p)
    (hk : ∀ k ∈ ks, Gl X (Str.ofString (kdN k)) ∧ X.mg (Str.ofString (kdN k)) = none) (hz : ks.length < 1000) (ha : PE X e (tD X.K W xa hx η fa)) (hst : noStar e = true) :
    PE X (.Call (.Name "isinstance" p) [e, .Tuple ns k0 tp] [] pos) (tD X.K W xa hx η fun ρ M => (fa ρ M).bind fun x M => .ok (.bl (isKind ks x)) M) :=
  PE.imp (pe_callB call_isiT hg hm PyProof.Rows.boot_isinstance (pa_cons ha (pa_cons (pe_tup (d_clss hl hn hk)) pa_nil) (star1 (noStar_ne hst))) (by decide +kernel) (by decide +kernel) (star1 (noStar_ne hst)) rfl)
    fun σ H Q h => tR.seq h fun β ρ M x v H1 sr r1 h1 => by
      refine ⟨by rw [List.length_map, lim_eq]; exact Nat.le_trans (Nat.le_of_lt hz) (by decide), fun q hq => ?_⟩
      have e1 : Ext β M.length H1 β M.length (upd H1 q (.tup (ks.map fun k => V.ty (kdN k)))) := Ext.fresh hq
      have hp := sr.heap.fresh (o := .tup (ks.map fun k => V.ty (kdN k))) hq
      refine ⟨v, q, _, _, ks.map fun k => Value.type (kdN k), isKind ks x, rfl, upd_same, ?_, rep_ty hp (Rep.mono sr.heap e1 r1), kit_ds x ks, h1 β _ _ e1 hp rfl⟩
      clear hl hn hk hz h h1 e1 hp
      induction ks with
      | nil => exact .nil
      | cons k ks ih => exact .cons (.ty _) ih
end
end LX

set_option Elab.async false
set_option linter.all false
set_option maxRecDepth 100000
set_option maxHeartbeats 2000000
/-! LxLoop: what is walked; comprehensions. -/
namespace LX
open PySem L2 RZ PyProof.Rows
/-- the iterator J hands out the items all, as long as the list (if it is one that is written to) stays -/
inductive ItR (K : PySem.W.Frag) (H : Hp) (β : Bt) (N : Nat) (all : List D) : Option Nat → It → Prop
  | tl {a : Addr} (r : Rep K H β N (.tl all) (.ref a)) : ItR K H β N all none (Itl K a)
  | fl {a : Addr} (r : Rep K H β N (.fl all) (.ref a)) : ItR K H β N all none (Itl K a)
  | ref {n : Nat} (h : n < N) : ItR K H β N all (some n) (Itl K (β n))
  | tup {a : Addr} (r : Rep K H β N (.tup all) (.ref a)) : ItR K H β N all none (Itt K a)
  | str {s : List Nat} (e : all = s.map fun c => .str [c]) : ItR K H β N all none (Its ⟨s.toArray⟩)
  | rng {lo : Int} {n : Nat} (e : all = rngL lo n) : ItR K H β N all none (Itr lo n)
  | rnc {lo k : Int} {n : Nat} (e : all = rncL lo k n) : ItR K H β N all none (Itc lo k n)
  | zl {a b : Addr} {as bs : List D} (e : all = zipT as bs) (da db : D) (ha : lfOf da = some as) (hb : lfOf db = some bs) (r1 : Rep K H β N da (.ref a)) (r2 : Rep K H β N db (.ref b)) : ItR K H β N all none (Itz K a b)
  | zt {a b : Addr} {as bs : List D} (e : all = zipT as bs) (r1 : Rep K H β N (.tup as) (.ref a)) (r2 : Rep K H β N (.tup bs) (.ref b)) : ItR K H β N all none (ItzT K a b)
mutual
theorem same_eq : ∀ {a b : D}, D.same a b = true → a = b
  | .non, .non, _ => rfl
  | .bl _, .bl _, h => congrArg D.bl (beq_iff_eq.mp h)
  | .int _, .int _, h => congrArg D.int (beq_iff_eq.mp h)
  | .str _, .str _, h => congrArg D.str (beq_iff_eq.mp h)
  | .tup _, .tup _, h => congrArg D.tup (sames_eq h)
  | .tl _, .tl _, h => congrArg D.tl (sames_eq h)
  | .fl _, .fl _, h => congrArg D.fl (sames_eq h)
  | .ref _, .ref _, h => congrArg D.ref (beq_iff_eq.mp h)
  | .edic, .edic, _ => rfl
theorem sames_eq : ∀ {a b : List D}, D.sames a b = true → a = b
  | [], [], _ => rfl
  | a :: as, b :: bs, h => by
    have h' : (D.same a b && D.sames as bs) = true := h
    rw [Bool.and_eq_true] at h'
    rw [same_eq h'.1, sames_eq h'.2]
end
section
variable {K : PySem.W.Frag} {H H' : Hp} {β β' : Bt} {M M' : MH} {all : List D} {chk : Option Nat} {J : It}
theorem ItR.mono (hp : HeapR K H β M) (e : Ext β M.length H β' M'.length H') (r : ItR K H β M.length all chk J) : ItR K H' β' M'.length all chk J := by
  cases r with
  | tl r => exact .tl (Rep.mono hp e r)
  | fl r => exact .fl (Rep.mono hp e r)
  | @ref n h =>
    rw [← e.agree n h]
    exact .ref (Nat.lt_of_lt_of_le h e.le)
  | tup r => exact .tup (Rep.mono hp e r)
  | str q => exact .str q
  | rng q => exact .rng q
  | rnc q => exact .rnc q
  | zl q da db ha hb r1 r2 => exact .zl q da db ha hb (Rep.mono hp e r1) (Rep.mono hp e r2)
  | zt q r1 r2 => exact .zt q (Rep.mono hp e r1) (Rep.mono hp e r2)
theorem lf_seq {da : D} {as : List D} {a : Addr} {N : Nat} (ha : lfOf da = some as) (r : Rep K H β N da (.ref a)) : ∃ vs, SqL K H a vs ∧ Reps K H β N as vs := by
  cases da with
  | tl xs =>
    cases ha
    unfold Rep at r
    obtain ⟨a, vs, e, q, _, rs⟩ := r
    cases e
    exact ⟨vs, SqL.of q, rs⟩
  | fl xs =>
    cases ha
    unfold Rep at r
    obtain ⟨a, vs, e, q, rs⟩ := r
    cases e
    exact ⟨vs, q.sq, rs⟩
  | _ => cases ha
theorem ItR.lists (hp : HeapR K H β M) (r : ItR K H β M.length all chk J) (hs : stays M all chk = true) : (∃ a vs, J = Itl K a ∧ SqL K H a vs ∧ Reps K H β M.length all vs) ∨ (∃ a vs, J = Itt K a ∧ SqT K H a vs ∧ Reps K H β M.length all vs) ∨ (∃ s : List Nat, all = s.map (fun c => .str [c]) ∧ J = Its ⟨s.toArray⟩) ∨ (∃ lo n, all = rngL lo n ∧ J = Itr lo n) ∨ (∃ lo k n, all = rncL lo k n ∧ J = Itc lo k n) ∨ ∃ a b as bs vs us, all = zipT as bs ∧ Reps K H β M.length as vs ∧ Reps K H β M.length bs us ∧ ((J = Itz K a b ∧ SqL K H a vs ∧ SqL K H b us) ∨ (J = ItzT K a b ∧ SqT K H a vs ∧ SqT K H b us)) := by
  cases r with
  | tl r =>
    unfold Rep at r
    obtain ⟨a, vs, e, q, _, rs⟩ := r
    cases e
    exact .inl ⟨_, vs, rfl, SqL.of q, rs⟩
  | fl r =>
    unfold Rep at r
    obtain ⟨a, vs, e, q, rs⟩ := r
    cases e
    exact .inl ⟨_, vs, rfl, q.sq, rs⟩
  | @ref n h =>
    have hs' : (match lstAt M n with
      | some xs => D.sames xs all
      | none => false) = true := hs
    cases f : lstAt M n with
    | none => rw [f] at hs'; cases hs'
    | some xs =>
      rw [f] at hs'
      have := sames_eq hs'
      subst this
      obtain ⟨_, vs, q, rs⟩ := hp.lst f
      exact .inl ⟨_, vs, rfl, SqL.of q, rs⟩
  | tup r =>
    obtain ⟨a, vs, e, q, rs⟩ := r.tupI
    cases e
    exact .inr (.inl ⟨_, vs, rfl, q, rs⟩)
  | str q => exact .inr (.inr (.inl ⟨_, q, rfl⟩))
  | rng q => exact .inr (.inr (.inr (.inl ⟨_, _, q, rfl⟩)))
  | rnc q => exact .inr (.inr (.inr (.inr (.inl ⟨_, _, _, q, rfl⟩))))
  | @zl a b as bs q da db ha hb r1 r2 =>
    obtain ⟨vs, s1, r1⟩ := lf_seq ha r1
    obtain ⟨us, s2, r2⟩ := lf_seq hb r2
    exact .inr (.inr (.inr (.inr (.inr ⟨a, b, as, bs, vs, us, q, r1, r2, .inl ⟨rfl, s1, s2⟩⟩))))
  | @zt a b as bs q r1 r2 =>
    obtain ⟨a1, vs, e1, s1, r1⟩ := r1.tupI
    obtain ⟨b1, us, e2, s2, r2⟩ := r2.tupI
    cases e1
    cases e2
    exact .inr (.inr (.inr (.inr (.inr ⟨_, _, as, bs, vs, us, q, r1, r2, .inr ⟨rfl, s1, s2⟩⟩))))
theorem ItR.stop (hp : HeapR K H β M) (r : ItR K H β M.length all chk J) (hs : stays M all chk = true) {i : Nat} (hi : all.length ≤ i) : J.stop i H := by
  rcases r.lists hp hs with ⟨a, vs, rfl, q, rs⟩ | ⟨a, vs, rfl, q, rs⟩ | ⟨s, rfl, rfl⟩ | ⟨lo, n, rfl, rfl⟩ | ⟨lo, kk, n, rfl, rfl⟩ | ⟨a, b, as, bs, vs, us, rfl, r1, r2, hj⟩
  · exact ⟨vs, q, by rw [rs.length]; exact hi⟩
  · exact ⟨vs, q, by rw [rs.length]; exact hi⟩
  · show (⟨s.toArray⟩ : Str).cps.size ≤ i
    rw [List.length_map] at hi
    simpa using hi
  · show n ≤ i
    unfold rngL at hi
    rw [List.length_map, List.length_range] at hi
    exact hi
  · show n ≤ i
    unfold rncL at hi
    rw [List.length_map, List.length_range] at hi
    exact hi
  · unfold zipT at hi
    rw [List.length_map, List.length_zip] at hi
    have h1 := r1.length
    have h2 := r2.length
    rcases hj with ⟨rfl, s1, s2⟩ | ⟨rfl, s1, s2⟩
    · exact ⟨vs, us, s1, s2, by omega⟩
    · exact ⟨vs, us, s1, s2, by omega⟩
theorem ItR.go (hp : HeapR K H β M) (r : ItR K H β M.length all chk J) (hs : stays M all chk = true) {i : Nat} {x : D} (hx : all[i]? = some x) : J.go i H ∧ ∀ v H', J.yld i H v H' → Ext β M.length H β M.length H' ∧ HeapR K H' β M ∧ Rep K H' β M.length x v := by
  rcases r.lists hp hs with ⟨a, vs, rfl, q, rs⟩ | ⟨a, vs, rfl, q, rs⟩ | ⟨s, rfl, rfl⟩ | ⟨lo, n, rfl, rfl⟩ | ⟨lo, kk, n, rfl, rfl⟩ | ⟨a, b, as, bs, vs, us, rfl, r1, r2, hj⟩
  · obtain ⟨u, e1, e2⟩ := rs.get hx
    refine ⟨⟨vs, u, q, e1⟩, fun v H' y => ?_⟩
    obtain ⟨rfl, y⟩ := y
    have := Option.some.inj ((y vs q).symm.trans e1)
    subst this
    exact ⟨Ext.refl .., hp, e2⟩
  · obtain ⟨u, e1, e2⟩ := rs.get hx
    refine ⟨⟨vs, u, q, e1⟩, fun v H' y => ?_⟩
    obtain ⟨rfl, y⟩ := y
    have := Option.some.inj ((y vs q).symm.trans e1)
    subst this
    exact ⟨Ext.refl .., hp, e2⟩
  · rw [List.getElem?_map] at hx
    obtain ⟨c, e1, e2⟩ := Option.map_eq_some_iff.mp hx
    have hi := (List.getElem?_eq_some_iff.mp e1).1
    refine ⟨by show i < (⟨s.toArray⟩ : Str).cps.size; simpa using hi, fun v H' y => ?_⟩
    obtain ⟨rfl, c', e3, rfl⟩ := y
    have e4 : s[i]? = some c' := by simpa using e3
    have := Option.some.inj (e1.symm.trans e4)
    subst this
    subst e2
    exact ⟨Ext.refl .., hp, Rep.mkStr (s := [c]) (by show 1 ≤ lim; decide)⟩
  · unfold rngL at hx
    rw [List.getElem?_map] at hx
    obtain ⟨k, e1, e2⟩ := Option.map_eq_some_iff.mp hx
    have hi := (List.getElem?_eq_some_iff.mp e1).1
    rw [List.length_range] at hi
    rw [List.getElem?_range hi] at e1
    have := Option.some.inj e1
    subst this
    subst e2
    refine ⟨hi, fun v H' y => ?_⟩
    obtain ⟨rfl, rfl⟩ := y
    exact ⟨Ext.refl .., hp, rfl⟩
  · unfold rncL at hx
    rw [List.getElem?_map] at hx
    obtain ⟨k, e1, e2⟩ := Option.map_eq_some_iff.mp hx
    have hi := (List.getElem?_eq_some_iff.mp e1).1
    rw [List.length_range] at hi
    rw [List.getElem?_range hi] at e1
    have := Option.some.inj e1
    subst this
    subst e2
    refine ⟨hi, fun v H' y => ?_⟩
    obtain ⟨rfl, rfl⟩ := y
    exact ⟨Ext.refl .., hp, rfl⟩
  · unfold zipT at hx
    rw [List.getElem?_map] at hx
    obtain ⟨p, e1, e2⟩ := Option.map_eq_some_iff.mp hx
    obtain ⟨x1, x2⟩ := p
    rw [List.getElem?_zip_eq_some] at e1
    obtain ⟨u1, f1, g1⟩ := r1.get e1.1
    obtain ⟨u2, f2, g2⟩ := r2.get e1.2
    have fin : ∀ (v : V) (H' : Hp) (T : Addr) (y1 y2 : V), v = .ref T → H T = none → H' = upd H T (.tup [y1, y2]) → y1 = u1 → y2 = u2 → Ext β M.length H β M.length H' ∧ HeapR K H' β M ∧ Rep K H' β M.length x v := by
      intro v H' T y1 y2 e3 hn e4 e5 e6
      subst e3 e4 e5 e6 e2
      refine ⟨Ext.fresh hn, hp.fresh hn, ?_⟩
      show Rep _ _ _ _ (D.tup [x1, x2]) _
      unfold Rep
      exact ⟨T, [y1, y2], rfl, .inl (.inl upd_same), Reps.mono hp (Ext.fresh hn) (.cons g1 (.one g2))⟩
    rcases hj with ⟨rfl, s1, s2⟩ | ⟨rfl, s1, s2⟩
    · refine ⟨⟨vs, us, u1, u2, s1, s2, f1, f2⟩, fun v H' ⟨T, y1, y2, e3, hn, e4, k1, k2⟩ => ?_⟩
      exact fin v H' T y1 y2 e3 hn e4 (Option.some.inj ((k1 vs s1).symm.trans f1)) (Option.some.inj ((k2 us s2).symm.trans f2))
    · refine ⟨⟨vs, us, u1, u2, s1, s2, f1, f2⟩, fun v H' ⟨T, y1, y2, e3, hn, e4, k1, k2⟩ => ?_⟩
      exact fin v H' T y1 y2 e3 hn e4 (Option.some.inj ((k1 vs s1).symm.trans f1)) (Option.some.inj ((k2 us s2).symm.trans f2))
end
/-- the items and the iterator -/
def RIt (K : PySem.W.Frag) (H : Hp) (β : Bt) (N : Nat) (p : List D × Option Nat) (J : It) : Prop := ItR K H β N p.1 p.2 J
section
variable {X : Cx} {W : WX} {xa : Nat → Addr} {hx : Option Hx} {η : Option (Nat × Flds)} {tg e a b e3 : Expr} {es : List Expr} {pos p : Pos} {fa fb fc : Env → MH → Res D} {fs : Env → MH → Res (List D)}
def iAny (K : PySem.W.Frag) (te : TE) : TI := fun σ H R => te σ H fun x H1 => (∃ a, x = .ref a ∧ (∃ xs, SqL K H1 a xs) ∧ R (Itl K a) H1) ∨ (∃ a, x = .ref a ∧ (∃ xs, SqT K H1 a xs) ∧ R (Itt K a) H1) ∨ ∃ z, x = .str z ∧ R (Its z) H1
theorem pi_any {l : Expr} {tl : TE} (hl : PE X l tl) : PI X tg l (iAny X.K tl) := by
  refine ⟨fun pins s σ H R I h => ?_⟩
  refine thn (hl.run pins s σ H _ I h) fun v s1 ⟨x, H1, I1, r1, q1⟩ => ?_
  rcases q1 with ⟨a, rfl, ⟨xs, hq⟩, q⟩ | ⟨a, rfl, ⟨xs, hq⟩, q⟩ | ⟨z, rfl, q⟩
  · cases r1
    obtain ⟨its, rv, p, hz⟩ := I1.list hq
    refine wpAny_pyIter_list p.isList ?_
    refine ⟨s1.heap.objs.size, [s1.heap.objs.size], _, _, H1, rfl, I1.kept (t' := s1.toks) fun b o e => Heap.get?_push_of_some _ e, turn_list a _, ⟨_, Heap.get?_push_size _ rfl, rfl, rfl⟩, fun b hb => ?_, q⟩
    have e : b = s1.heap.objs.size := by simpa using hb
    subst e
    exact I1.fpOk (Nat.le_refl _) (I1.hok.fresh (Nat.le_refl _))
  · cases r1
    obtain ⟨its, rv, p, hz⟩ := I1.tuple hq
    refine wpAny_pyIter_tuple (show s1.heap.IsTuple a its.toArray from p) ?_
    refine ⟨s1.heap.objs.size, [s1.heap.objs.size], _, _, H1, rfl, I1.kept (t' := s1.toks) fun b o e => Heap.get?_push_of_some _ e, turn_tuple a _, ⟨_, Heap.get?_push_size _ rfl, rfl, rfl⟩, fun b hb => ?_, q⟩
    have e : b = s1.heap.objs.size := by simpa using hb
    subst e
    exact I1.fpOk (Nat.le_refl _) (I1.hok.fresh (Nat.le_refl _))
  · obtain ⟨t, rfl⟩ := r1
    cases ha : z.cps.all (· < 128)
    · exact wpAny_pyIter_wide ha (pi_one (tk := s1.toks) I1 _ (turn_str _ z t "str_iterator" (.inr rfl)) ⟨_, Heap.get?_push_size _ rfl, rfl, rfl⟩ q)
    · exact wpAny_pyIter_ascii ha (pi_one (tk := s1.toks) I1 _ (turn_str _ z t "str_ascii_iterator" (.inl rfl)) ⟨_, Heap.get?_push_size _ rfl, rfl, rfl⟩ q)
/-- the reading of what a loop walks -/
def tI (K : PySem.W.Frag) (W : WX) (xa : Nat → Addr) (hx : Option Hx) (η : Option (Nat × Flds)) (f : Env → MH → Res (List D × Option Nat)) : TI := fun σ H R => tR RIt K W xa hx η f σ H R
theorem PI.imp {l : Expr} {t t' : TI} (h : PI X tg l t) (i : ∀ σ H R, t' σ H R → t σ H R) : PI X tg l t' := ⟨fun pins s σ H R I q => h.run pins s σ H R I (i σ H R q)⟩
theorem i_val {l : Expr} (h : PE X l (tD X.K W xa hx η fa)) : PI X tg l (tI X.K W xa hx η fun ρ M => (fa ρ M).bind fun d M => ofO (itemsD M d) M) :=
  PI.imp (pi_any h) fun σ H R h => tR.seq h fun β ρ M x v H1 sr r1 h1 => by
    have fin : ∀ {p : List D × Option Nat} {J : It}, itemsD M x = some p → ItR X.K H1 β M.length p.1 p.2 J → R J H1 := fun {p J} e q => by
      rw [e] at h1
      exact h1 β H1 J (Ext.refl ..) sr.heap q
    cases x with
    | tup xs =>
      obtain ⟨a, vs, rfl, q, rs⟩ := r1.tupI
      exact .inr (.inl ⟨a, rfl, ⟨vs, q⟩, fin rfl (.tup r1)⟩)
    | tl xs =>
      have r1' := r1
      unfold Rep at r1'
      obtain ⟨a, vs, rfl, q, _, rs⟩ := r1'
      exact .inl ⟨a, rfl, ⟨vs, SqL.of q⟩, fin rfl (.tl r1)⟩
    | fl xs =>
      have r1' := r1
      unfold Rep at r1'
      obtain ⟨a, vs, rfl, q, rs⟩ := r1'
      exact .inl ⟨a, rfl, ⟨vs, q.sq⟩, fin rfl (.fl r1)⟩
    | str s =>
      obtain ⟨_, rfl⟩ := r1.strI
      exact .inr (.inr ⟨_, rfl, fin rfl (.str rfl)⟩)
    | ref n =>
      unfold Rep at r1
      obtain ⟨hn, rfl⟩ := r1
      cases f : lstAt M n with
      | none =>
        have : itemsD M (.ref n) = none := by
          show (lstAt M n).map _ = none
          rw [f]; rfl
        rw [this] at h1
        exact h1.elim
      | some xs =>
        obtain ⟨_, vs, q, rs⟩ := sr.heap.lst f
        refine .inl ⟨_, rfl, ⟨vs, SqL.of q⟩, fin (p := (xs, some n)) ?_ (.ref hn)⟩
        show (lstAt M n).map _ = _
        rw [f]; rfl
    | _ => exact h1.elim
theorem i_rng1 (hg : Gl X "range") (hm : X.mg "range" = none) (ha : PE X a (tD X.K W xa hx η fa)) (hs : noStar a = true) :
    PI X tg (.Call (.Name "range" p) [a] [] pos) (tI X.K W xa hx η fun ρ M => (fa ρ M).bind fun x M => (ofO (rng1D x) M).bind fun l M => .ok (l, none) M) :=
  PI.imp (pi_range1 hg hm (pa_cons ha pa_nil (star1 (noStar_ne hs))) (star1 (noStar_ne hs))) fun σ H R h => tR.seq h fun β ρ M x v H1 sr r1 h1 => by
    obtain ⟨l, e1, h1⟩ := h1.ofO
    cases x with
    | int j =>
      have e1' : (if fits j then some (rngL 0 j.toNat) else none) = some l := e1
      by_cases hf : fits j = true
      · rw [if_pos hf] at e1'
        have := Option.some.inj e1'
        subst this
        unfold fits at hf
        rw [Bool.and_eq_true, decide_eq_true_eq, decide_eq_true_eq] at hf
        exact ⟨j, by rw [r1.intI], hf.1, hf.2, h1 β H1 _ (Ext.refl ..) sr.heap (.rng rfl)⟩
      · rw [if_neg hf] at e1'
        cases e1'
    | _ => cases e1
theorem i_rng3 {e1 : Expr} {fd : Env → MH → Res D} (hg : Gl X "range") (hm : X.mg "range" = none) (ha : PE X a (tD X.K W xa hx η fa)) (hb : PE X b (tD X.K W xa hx η fb)) (hd : PE X e1 (tD X.K W xa hx η fd)) (hs : noStar a = true) (hs2 : noStar b = true) (hs3 : noStar e1 = true) :
    PI X tg (.Call (.Name "range" p) [a, b, e1] [] pos) (tI X.K W xa hx η fun ρ M => (fa ρ M).bind fun x M => (fb ρ M).bind fun y M => (fd ρ M).bind fun z M => (ofO (rng3D x y z) M).bind fun l M => .ok (l, none) M) :=
  PI.imp (pi_range3 hg hm (pa_cons ha (pa_cons hb (pa_cons hd pa_nil (star1 (noStar_ne hs3))) (star1 (noStar_ne hs2))) (star1 (noStar_ne hs))) (by rw [star1 (noStar_ne hs), star1 (noStar_ne hs2), star1 (noStar_ne hs3)] <;> rfl) (by rw [star1 (noStar_ne hs2), star1 (noStar_ne hs3)] <;> rfl)) fun σ H R h => tR.seq h fun β ρ M x v H1 sr r1 h1 => tR.seq2 sr h1 fun β2 M2 y u H2 sr2 mo _ r2 h2 => tR.seq2 sr2 h2 fun β3 M3 z w H3 sr3 mo3 _ r3 h3 => by
    obtain ⟨l, e1, h3⟩ := h3.ofO
    cases x with
    | int i =>
      cases y with
      | int j =>
        cases z with
        | int k =>
          have e1' : (if decide (k ≠ 0) && (decide (k.natAbs < 1073741824) && (PySem.Builtin.Range.small i j k && decide (0 ≤ PySem.Builtin.Range.rangeSize i j k))) then some (rncL i k (PySem.Builtin.Range.rangeSize i j k).toNat) else none) = some l := e1
          by_cases hf : (decide (k ≠ 0) && (decide (k.natAbs < 1073741824) && (PySem.Builtin.Range.small i j k && decide (0 ≤ PySem.Builtin.Range.rangeSize i j k)))) = true
          · rw [if_pos hf] at e1'
            have := Option.some.inj e1'
            subst this
            rw [Bool.and_eq_true, Bool.and_eq_true, Bool.and_eq_true, decide_eq_true_eq, decide_eq_true_eq, decide_eq_true_eq] at hf
            exact ⟨i, j, k, _, by rw [r1.intI, r2.intI, r3.intI], ⟨hf.1, hf.2.1, hf.2.2.1, (Int.toNat_of_nonneg hf.2.2.2).symm⟩, h3 β3 H3 _ (Ext.refl ..) sr3.heap (.rnc rfl)⟩
          · rw [if_neg hf] at e1'
            cases e1'
        | _ => cases e1
      | _ => cases e1
    | _ => cases e1
theorem d_lrng {m : Bool} (hc : X.calm = true) (hg : Gl X "list") (hm : X.mg "list" = none) (hg2 : Gl X "range") (hm2 : X.mg "range" = none) (ha : PE X a (tD X.K W xa hx η fa)) (hs : noStar a = true) {p2 pos2 : Pos} :
    PE X (.Call (.Name "list" p) [.Call (.Name "range" p2) [a] [] pos2] [] pos) (tD X.K W xa hx η fun ρ M => (fa ρ M).bind fun x M => (ofO (rngS x) M).bind fun l M => LX.newL m l M) :=
  PE.imp (pe_listRg hc hg hm (prg_1 hg2 hm2 ha (star1 (noStar_ne hs)))) fun σ H Q h => tR.seq h fun β ρ M x v H1 sr r1 h1 => by
    obtain ⟨l, e1, h1⟩ := h1.ofO
    cases x with
    | int j =>
      have e1' : (if decide (-(2 ^ 62) ≤ j) && decide (j ≤ 16777216) then some (rngL 0 j.toNat) else none) = some l := e1
      by_cases hf : (decide (-(2 ^ 62) ≤ j) && decide (j ≤ 16777216)) = true
      · rw [if_pos hf] at e1'
        have := Option.some.inj e1'
        subst this
        rw [Bool.and_eq_true, decide_eq_true_eq, decide_eq_true_eq] at hf
        refine ⟨j, r1.intI, ⟨by omega, by omega, hf.1, by omega, by omega⟩, ?_⟩
        have e2 : rngL 0 j.toNat = ((List.range j.toNat).map fun i => (0 : Int) + (i : Nat)).map D.int := by unfold rngL; rw [List.map_map]; rfl
        have e3 : rgV 0 j = ((List.range j.toNat).map fun i => (0 : Int) + (i : Nat)).map V.int := by unfold rgV; rw [List.map_map, Int.sub_zero]; rfl
        rw [e3]
        exact h1.newL sr.heap (by rw [e2]; exact Reps.ofInts _)
      · rw [if_neg hf] at e1'
        cases e1'
    | _ => cases e1
theorem i_rng2 (hg : Gl X "range") (hm : X.mg "range" = none) (ha : PE X a (tD X.K W xa hx η fa)) (hb : PE X b (tD X.K W xa hx η fb)) (hs : noStar a = true) (hs2 : noStar b = true) :
    PI X tg (.Call (.Name "range" p) [a, b] [] pos) (tI X.K W xa hx η fun ρ M => (fa ρ M).bind fun x M => (fb ρ M).bind fun y M => (ofO (rng2D x y) M).bind fun l M => .ok (l, none) M) :=
  PI.imp (pi_range2 hg hm (pa_cons ha (pa_cons hb pa_nil (star1 (noStar_ne hs2))) (star1 (noStar_ne hs))) (by rw [star1 (noStar_ne hs), star1 (noStar_ne hs2)]; rfl) (by rw [star1 (noStar_ne hs2)]; rfl)) fun σ H R h => tR.seq h fun β ρ M x v H1 sr r1 h1 => tR.seq2 sr h1 fun β2 M2 y u H2 sr2 mo _ r2 h2 => by
    obtain ⟨l, e1, h2⟩ := h2.ofO
    cases x with
    | int i =>
      cases y with
      | int j =>
        have e1' : (if fits i && fits j then some (rngL i (j - i).toNat) else none) = some l := e1
        by_cases hf : (fits i && fits j) = true
        · rw [if_pos hf] at e1'
          have := Option.some.inj e1'
          subst this
          unfold fits at hf
          rw [Bool.and_eq_true, Bool.and_eq_true, Bool.and_eq_true, decide_eq_true_eq, decide_eq_true_eq, decide_eq_true_eq, decide_eq_true_eq] at hf
          exact ⟨i, j, by rw [r1.intI, r2.intI], ⟨hf.1.1, hf.1.2, hf.2.1, hf.2.2⟩, h2 β2 H2 _ (Ext.refl ..) sr2.heap (.rng rfl)⟩
        · rw [if_neg hf] at e1'
          cases e1'
      | _ => cases e1
    | _ => cases y <;> cases e1
theorem i_zip {elts : List Expr} {kk : Nat} {tpos : Pos} (hg : Gl X "zip") (hm : X.mg "zip" = none) (ha : PE X a (tD X.K W xa hx η fa)) (hb : PE X b (tD X.K W xa hx η fb)) (hs : noStar a = true) (hs2 : noStar b = true) :
    PI X (.Tuple elts kk tpos) (.Call (.Name "zip" p) [a, b] [] pos) (tI X.K W xa hx η fun ρ M => (fa ρ M).bind fun x M => (fb ρ M).bind fun y M => (ofO (zipD x y) M).bind fun l M => .ok (l, none) M) :=
  PI.imp (pi_zipA hg hm (pa_cons ha (pa_cons hb pa_nil (star1 (noStar_ne hs2))) (star1 (noStar_ne hs))) (star1 (noStar_ne hs)) (by rw [star1 (noStar_ne hs2)]; rfl)) fun σ H R h => tR.seq h fun β ρ M x v H1 sr r1 h1 => tR.seq2 sr h1 fun β2 M2 y u H2 sr2 mo _ r2 h2 => by
    obtain ⟨l, e1, h2⟩ := h2.ofO
    have r1 := mo r1
    have gen : (zipD x y = ((lfOf x).bind fun xs => (lfOf y).map fun ys => zipT xs ys)) → ∃ a b xs ys, [v, u] = [V.ref a, V.ref b] ∧ ((SqL X.K H2 a xs ∧ SqL X.K H2 b ys ∧ R (Itz X.K a b) H2) ∨ (SqT X.K H2 a xs ∧ SqT X.K H2 b ys ∧ R (ItzT X.K a b) H2)) := fun e => by
      rw [e] at e1
      obtain ⟨as, e2, e3⟩ := Option.bind_eq_some_iff.mp e1
      obtain ⟨bs, e4, e5⟩ := Option.map_eq_some_iff.mp e3
      have key : ∀ {d : D} {ds : List D} {z : V}, lfOf d = some ds → Rep X.K H2 β2 M2.length d z → ∃ a, z = .ref a := fun {d ds z} q r => by
        cases d with
        | tl xs => unfold Rep at r; obtain ⟨a, _, e, _⟩ := r; exact ⟨a, e⟩
        | fl xs => unfold Rep at r; obtain ⟨a, _, e, _⟩ := r; exact ⟨a, e⟩
        | _ => cases q
      obtain ⟨a, rfl⟩ := key e2 r1
      obtain ⟨b, rfl⟩ := key e4 r2
      obtain ⟨vs, s1, _⟩ := lf_seq e2 r1
      obtain ⟨us, s2, _⟩ := lf_seq e4 r2
      exact ⟨a, b, vs, us, rfl, .inl ⟨s1, s2, h2 β2 H2 _ (Ext.refl ..) sr2.heap (.zl e5.symm x y e2 e4 r1 r2)⟩⟩
    cases x with
    | tup as =>
      cases y with
      | tup bs =>
        cases e1
        obtain ⟨a, vs, rfl, s1, _⟩ := r1.tupI
        obtain ⟨b, us, rfl, s2, _⟩ := r2.tupI
        exact ⟨a, b, vs, us, rfl, .inr ⟨s1, s2, h2 β2 H2 _ (Ext.refl ..) sr2.heap (.zt rfl r1 r2)⟩⟩
      | _ => exact gen rfl
    | _ => exact gen rfl
/-! ### targets -/
def setAllV : List Nat → List V → L2.St → L2.St
  | i :: is, v :: vs, σ => setAllV is vs (σ.set i (some v))
  | _, _, σ => σ
/-- a target's store -/
def gS (K : PySem.W.Frag) : G → TG
  | .one i => fun v σ H Q => Q (σ.set i (some v)) H
  | .tup is => fun v σ H Q => ∃ a xs, v = .ref a ∧ SqT K H a xs ∧ xs.length = is.length ∧ Q (setAllV is xs σ) H
def slots : G → List Nat
  | .one i => [i]
  | .tup is => is
/-- the slot i is not the handled exception's -/
def freeI (hx : Option Hx) (i : Nat) : Prop := ∀ h, hx = some h → h.i ≠ some i
theorem SR.set {K : PySem.W.Frag} {H : Hp} {β : Bt} {M : MH} {ρ : Env} {σ : L2.St} {i : Nat} {x : D} {v : V} (s : SR K hx η H β M ρ σ) (r : Rep K H β M.length x v) (hf : freeI hx i) : SR K hx η H β M (ρ.set i (some x)) (σ.set i (some v)) where
  env := by
    refine ⟨by rw [List.length_set, List.length_set]; exact s.env.len, fun j d e => ?_⟩
    by_cases hij : i = j
    · subst hij
      by_cases hl : i < ρ.length
      · rw [List.getElem?_set_self hl] at e
        have := Option.some.inj (Option.some.inj e)
        subst this
        exact ⟨v, by rw [List.getElem?_set_self (by rw [s.env.len]; exact hl)], r⟩
      · rw [List.getElem?_eq_none (by rw [List.length_set]; omega)] at e
        cases e
    · rw [List.getElem?_set_ne hij] at e ⊢
      exact s.env.val j d e
  heap := s.heap
  hot := by
    have q := s.hot
    cases hx with
    | none => cases η with
      | none => trivial
      | some _ => exact q.elim
    | some h => cases η with
      | none => exact q.elim
      | some p =>
        obtain ⟨q1, q2⟩ := q
        refine ⟨fun j e => ?_, q2⟩
        rw [List.getElem?_set_ne (fun z => hf h rfl (by rw [e, z]))]
        exact q1 j e
theorem SR.setAll {K : PySem.W.Frag} {H : Hp} {β : Bt} {M : MH} : ∀ {is : List Nat} {ds : List D} {vs : List V} {ρ : Env} {σ : L2.St}, SR K hx η H β M ρ σ → Reps K H β M.length ds vs → (∀ i ∈ is, freeI hx i) → SR K hx η H β M (LX.setAll is ds ρ) (setAllV is vs σ)
  | [], _, _, _, _, s, _, _ => by
    unfold LX.setAll setAllV
    exact s
  | i :: is, [], vs, _, _, s, r, _ => by
    have := r.nilI
    subst this
    unfold LX.setAll setAllV
    exact s
  | i :: is, d :: ds, vs, _, _, s, r, hf => by
    obtain ⟨v, w, rfl, r1, r2⟩ := r.consI
    show SR K hx η H β M (LX.setAll is ds (_ : Env)) (setAllV is w (_ : L2.St))
    exact SR.setAll (s.set r1 (hf i List.mem_cons_self)) r2 fun j hj => hf j (List.mem_cons_of_mem _ hj)
theorem gS_of {K : PySem.W.Frag} {H : Hp} {β : Bt} {M : MH} {ρ ρ' : Env} {σ : L2.St} {g : G} {x : D} {v : V} {Q : L2.St → Hp → Prop} (sr : SR K hx η H β M ρ σ) (r : Rep K H β M.length x v) (e : bindG g x ρ = some ρ') (hf : ∀ i ∈ slots g, freeI hx i) (q : ∀ σ', SR K hx η H β M ρ' σ' → Q σ' H) : gS K g v σ H Q := by
  cases g with
  | one i =>
    have := Option.some.inj e
    subst this
    exact q _ (sr.set r (hf i List.mem_cons_self))
  | tup is =>
    cases x with
    | tup ds =>
      have e' : (if is.length = ds.length then some (LX.setAll is ds ρ) else none) = some ρ' := e
      by_cases hz : is.length = ds.length
      · rw [if_pos hz] at e'
        have := Option.some.inj e'
        subst this
        obtain ⟨a, vs, rfl, hq, rs⟩ := r.tupI
        exact ⟨a, vs, rfl, hq, by rw [rs.length, hz], q _ (sr.setAll rs hf)⟩
      · rw [if_neg hz] at e'
        cases e'
    | _ => cases e
theorem PG.imp {t t' : TG} (h : PG X tg t) (i : ∀ v σ H Q, t' v σ H Q → t v σ H Q) : PG X tg t' := ⟨fun pins s σ H v u Q I r q => h.run pins s σ H v u Q I r (i v σ H Q q)⟩
theorem g_one {i : Nat} {x : Str} (hN : X.N.Nodup) (hi : X.N[i]? = some x) (hl : Loc X.env.scope x) (hf : X.fn x = true ∨ X.env.scope.names.lookup x = some .local) : PG X (.Name x p) (gS X.K (.one i)) := pg_name hN hi hl hf
theorem g_names : ∀ {is : List Nat} {ts : List Expr}, is.length = ts.length → (∀ (k i : Nat) (t : Expr), is[k]? = some i → ts[k]? = some t → ∃ x p, t = Expr.Name x p ∧ X.N[i]? = some x ∧ Loc X.env.scope x ∧ (X.fn x = true ∨ X.env.scope.names.lookup x = some .local)) → X.N.Nodup →
    PGs X ts fun vs σ H Q => vs.length = is.length ∧ Q (setAllV is vs σ) H
  | [], [], _, _, _ => ⟨fun pins s σ H vs us Q I r h => by
      obtain ⟨hl, q⟩ := h
      have : vs = [] := List.eq_nil_of_length_eq_zero hl
      subst this
      exact pgs_nil.run pins s σ H _ us Q I r ⟨rfl, q⟩⟩
  | i :: is, t :: ts, hl, hn, nd => ⟨fun pins s σ H vs us Q I r h => by
      obtain ⟨x, p, rfl, h1, h2, h3⟩ := hn 0 i t rfl rfl
      obtain ⟨hl2, q⟩ := h
      cases vs with
      | nil => cases hl2
      | cons v w =>
        exact (pgs_cons (pg_name nd h1 h2 h3) (g_names (is := is) (ts := ts) (by simpa using hl) (fun k i' t' a b => hn (k + 1) i' t' (by simpa using a) (by simpa using b)) nd) rfl).run pins s σ H _ us Q I r ⟨v, w, rfl, by simpa using hl2, q⟩⟩
  | [], _ :: _, hl, _, _ => by cases hl
  | _ :: _, [], hl, _, _ => by cases hl
theorem g_tup {is : List Nat} {ts : List Expr} {k : Nat} (hc : X.calm = true) (hl : is.length = ts.length) (hn : ∀ (k i : Nat) (t : Expr), is[k]? = some i → ts[k]? = some t → ∃ x p, t = Expr.Name x p ∧ X.N[i]? = some x ∧ Loc X.env.scope x ∧ (X.fn x = true ∨ X.env.scope.names.lookup x = some .local)) (nd : X.N.Nodup)
    (h1 : (assignEach ts X.env).length = is.length) (h2 : (assignEach ts X.env).findIdx? (·.1) = none) : PG X (.Tuple ts k p) (gS X.K (.tup is)) :=
  PG.imp (pg_tup hc (g_names hl hn nd) h1 h2) fun v σ H Q ⟨a, xs, e, hq, hl, q⟩ => ⟨a, xs, e, hq, hl, hl, q⟩
/-! ### comprehensions -/
theorem wipe_get (σ : L2.St) (j : Nat) : ∀ vs : List Nat, (wipe σ vs)[j]? = if j ∈ vs then (σ[j]?).map (fun _ => none) else σ[j]?
  | [] => by simp [wipe]
  | v :: vs => by
    unfold wipe
    by_cases h : v = j
    · subst h
      rw [if_pos List.mem_cons_self]
      by_cases hl : v < σ.length
      · rw [List.getElem?_set_self (by rw [wipe_length]; exact hl), List.getElem?_eq_getElem hl]
        rfl
      · rw [List.getElem?_eq_none (by rw [List.length_set, wipe_length]; omega), List.getElem?_eq_none (by omega)]
        rfl
    · rw [List.getElem?_set_ne h, wipe_get σ j vs]
      have : (j ∈ v :: vs) = (j ∈ vs) := by
        rw [List.mem_cons]
        simp [Ne.symm h]
      simp only [this]
theorem wipe_set (σ : L2.St) (i : Nat) (x : Option V) {vs : List Nat} (h : i ∈ vs) : wipe (σ.set i x) vs = wipe σ vs := by
  apply List.ext_getElem?
  intro j
  rw [wipe_get, wipe_get]
  by_cases hj : j ∈ vs
  · rw [if_pos hj, if_pos hj]
    by_cases e : i = j
    · subst e
      by_cases hl : i < σ.length
      · rw [List.getElem?_set_self hl, List.getElem?_eq_getElem hl]
        rfl
      · rw [List.getElem?_eq_none (by rw [List.length_set]; omega), List.getElem?_eq_none (by omega)]
    · rw [List.getElem?_set_ne e]
  · rw [if_neg hj, if_neg hj, List.getElem?_set_ne (fun e => hj (by rw [← e]; exact h))]
theorem wipe_wipe (σ : L2.St) (vs : List Nat) : wipe (wipe σ vs) vs = wipe σ vs := by
  apply List.ext_getElem?
  intro j
  rw [wipe_get, wipe_get]
  by_cases hj : j ∈ vs
  · rw [if_pos hj, if_pos hj]
    cases σ[j]? <;> rfl
  · rw [if_neg hj, if_neg hj]
theorem wipe_setAll {vs : List Nat} : ∀ {is : List Nat} {xs : List V} {σ : L2.St}, (∀ i ∈ is, i ∈ vs) → wipe (setAllV is xs σ) vs = wipe σ vs
  | [], _, _, _ => by unfold setAllV; rfl
  | i :: is, [], _, _ => by unfold setAllV; rfl
  | i :: is, x :: xs, σ, h => by
    unfold setAllV
    rw [wipe_setAll (fun j hj => h j (List.mem_cons_of_mem _ hj)), wipe_set _ _ _ (h i List.mem_cons_self)]
theorem SR.wipe {K : PySem.W.Frag} {H : Hp} {β : Bt} {M : MH} {ρ : Env} {σ : L2.St} (s : SR K none none H β M ρ σ) : ∀ vs : List Nat, SR K none none H β M (wipeE ρ vs) (L2.wipe σ vs)
  | [] => s
  | v :: vs => by
    have q := SR.wipe s vs
    refine ⟨⟨by show (List.set _ _ _).length = (List.set _ _ _).length; rw [List.length_set, List.length_set]; exact q.env.len, fun i d e => ?_⟩, q.heap, trivial⟩
    have e' : ((wipeE ρ vs).set v none)[i]? = some (some d) := e
    by_cases h : v = i
    · subst h
      by_cases hl : v < (wipeE ρ vs).length
      · rw [List.getElem?_set_self hl] at e'
        cases e'
      · rw [List.getElem?_eq_none (by rw [List.length_set]; omega)] at e'
        cases e'
    · rw [List.getElem?_set_ne h] at e'
      obtain ⟨u, q1, q2⟩ := q.env.val i d e'
      refine ⟨u, ?_, q2⟩
      show ((L2.wipe σ vs).set v none)[i]? = _
      rw [List.getElem?_set_ne h]
      exact q1
/-- a target's store, within a comprehension's block -/
theorem gS_blk {K : PySem.W.Frag} {H : Hp} {β : Bt} {M : MH} {ρ ρ' : Env} {σ : L2.St} {g : G} {x : D} {v : V} {vs : List Nat} {Q : L2.St → Hp → Prop} (sr : SR K none none H β M ρ (L2.wipe σ vs)) (r : Rep K H β M.length x v) (e : bindG g x ρ = some ρ') (hs : ∀ i ∈ slots g, i ∈ vs)
    (q : ∀ σ', SR K none none H β M ρ' σ' → L2.wipe σ' vs = L2.wipe σ vs → Q σ' H) : gS K g v (L2.wipe σ vs) H Q := by
  have nf : ∀ i, freeI none i := fun i h z => by cases z
  cases g with
  | one i =>
    have := Option.some.inj e
    subst this
    exact q _ (sr.set r (nf i)) (by rw [wipe_set _ _ _ (hs i List.mem_cons_self), wipe_wipe])
  | tup is =>
    cases x with
    | tup ds =>
      have e' : (if is.length = ds.length then some (LX.setAll is ds ρ) else none) = some ρ' := e
      by_cases hz : is.length = ds.length
      · rw [if_pos hz] at e'
        have := Option.some.inj e'
        subst this
        obtain ⟨a, ws, rfl, hq, rs⟩ := r.tupI
        exact ⟨a, ws, rfl, hq, by rw [rs.length, hz], q _ (sr.setAll rs fun i _ => nf i) (by rw [wipe_setAll (is := is) hs, wipe_wipe])⟩
      · rw [if_neg hz] at e'
        cases e'
    | _ => cases e
abbrev WF : WX := fun _ _ _ _ => False
theorem PTs.imp {ifs : List Expr} {t t' : TT} (h : PTs X ifs t) (i : ∀ σ H Q, t' σ H Q → t σ H Q) : PTs X ifs t' := ⟨fun pins s σ H Q I q => h.run pins s σ H Q I (i σ H Q q)⟩
/-- a comprehension's tests -/
def tTs (K : PySem.W.Frag) (xa : Nat → Addr) (f : Env → MH → Res Bool) : TT := tR (fun _ => RP) K WF xa none none f
theorem ts_nil {s : Sys} {c : Cf} : PTs X [] (tTs X.K xa (tests s c none)) := PTs.imp pts_nil fun σ H Q ⟨β, ρ, M, sr, h⟩ => h β H true (Ext.refl ..) sr.heap rfl
theorem ts_one {s : Sys} {c : Cf} {t : Expr} {te : E} (h : PT X t (tT X.K WF xa none none (s.e c te))) : PTs X [t] (tTs X.K xa (tests s c (some te))) :=
  PTs.imp (pts_one h) fun σ H Q h => tR.seq h fun β ρ M x v H1 sr r1 h1 => by
    cases q : asBl x with
    | none => rw [q] at h1; exact h1.elim
    | some k =>
      rw [q] at h1
      have := asBl_some q
      subst this
      exact ⟨k, r1, h1 β H1 k (Ext.refl ..) sr.heap rfl⟩
/-! ### a list that is being made -/
def Bt.add (β : Bt) (A : Addr) : Bt := ⟨β.f, A :: β.p⟩
section
variable {K : PySem.W.Frag} {H : Hp} {β : Bt} {N : Nat} {M : MH} {A : Addr}
theorem sqT_upd {a : Addr} {vs ws : List V} {o : HO} (hA : H A = none ∨ ∃ us, H A = some (.lst us)) (q : SqT K H a vs) : SqT K (upd H A o) a vs := by
  have ne : ∀ {u : HO}, H a = some u → (∀ us, u ≠ .lst us) → a ≠ A := fun {u} e no z => by
    rw [z] at e
    rcases hA with h | ⟨us, h⟩
    · rw [h] at e; cases e
    · rw [h] at e; exact no us (Option.some.inj e).symm
  rcases q with (q | ⟨u, q⟩) | q
  · exact .inl (.inl (by rw [upd_ne (ne q fun _ z => by cases z)]; exact q))
  · exact .inl (.inr ⟨u, by rw [upd_ne (ne q fun _ z => by cases z)]; exact q⟩)
  · exact .inr q
theorem sqF_upd {a : Addr} {vs : List V} {o : HO} (hA : H A = none ∨ ∃ us, H A = some (.lst us)) (q : SqF K H a vs) : SqF K (upd H A o) a vs := by
  rcases q with ⟨u, q⟩ | q
  · refine .inl ⟨u, ?_⟩
    have : a ≠ A := fun z => by
      rw [z] at q
      rcases hA with h | ⟨us, h⟩
      · rw [h] at q; cases q
      · rw [h] at q; cases q
    rw [upd_ne this]
    exact q
  · exact .inr q
mutual
theorem Rep.add {o : HO} (hA : H A = none) : ∀ {d : D} {v : V}, Rep K H β N d v → Rep K (upd H A o) (β.add A) N d v
  | .non, _, r => r
  | .bl _, _, r => r
  | .int _, _, r => r
  | .str _, _, r => r
  | .tup xs, v, r => by
    unfold Rep at r ⊢
    obtain ⟨a, vs, rfl, q, rs⟩ := r
    exact ⟨a, vs, rfl, sqT_upd (ws := vs) (.inl hA) q, Reps.add hA rs⟩
  | .tl xs, v, r => by
    unfold Rep at r ⊢
    obtain ⟨a, vs, rfl, q, ⟨h1, h2⟩, rs⟩ := r
    have : a ≠ A := ne_of_none q hA
    exact ⟨a, vs, rfl, by rw [upd_ne this]; exact q, ⟨h1, fun z => by
      rcases List.mem_cons.mp z with z | z
      · exact this z
      · exact h2 z⟩, Reps.add hA rs⟩
  | .fl xs, v, r => by
    unfold Rep at r ⊢
    obtain ⟨a, vs, rfl, q, rs⟩ := r
    exact ⟨a, vs, rfl, sqF_upd (.inl hA) q, Reps.add hA rs⟩
  | .ref n, v, r => by
    unfold Rep at r ⊢
    exact r
  | .edic, v, r => by
    unfold Rep at r ⊢
    obtain ⟨a, rfl, q, ⟨h1, h2⟩⟩ := r
    have : a ≠ A := ne_of_none q hA
    exact ⟨a, rfl, by rw [upd_ne this]; exact q, ⟨h1, fun z => by
      rcases List.mem_cons.mp z with z | z
      · exact this z
      · exact h2 z⟩⟩
theorem Reps.add {o : HO} (hA : H A = none) : ∀ {ds : List D} {vs : List V}, Reps K H β N ds vs → Reps K (upd H A o) (β.add A) N ds vs
  | [], _, r => by
    have := r.nilI
    subst this
    exact .nil
  | d :: ds, _, r => by
    obtain ⟨v, w, rfl, r1, r2⟩ := r.consI
    exact .cons (Rep.add hA r1) (Reps.add hA r2)
end
mutual
theorem Rep.back {p : List Addr} (hp : ∀ a ∈ p, a ∈ β.p) : ∀ {d : D} {v : V}, Rep K H β N d v → Rep K H ⟨β.f, p⟩ N d v
  | .non, _, r => r
  | .bl _, _, r => r
  | .int _, _, r => r
  | .str _, _, r => r
  | .tup xs, v, r => by
    unfold Rep at r ⊢
    obtain ⟨a, vs, rfl, q, rs⟩ := r
    exact ⟨a, vs, rfl, q, Reps.back hp rs⟩
  | .tl xs, v, r => by
    unfold Rep at r ⊢
    obtain ⟨a, vs, rfl, q, ⟨h1, h2⟩, rs⟩ := r
    exact ⟨a, vs, rfl, q, ⟨h1, fun z => h2 (hp a z)⟩, Reps.back hp rs⟩
  | .fl xs, v, r => by
    unfold Rep at r ⊢
    obtain ⟨a, vs, rfl, q, rs⟩ := r
    exact ⟨a, vs, rfl, q, Reps.back hp rs⟩
  | .ref n, v, r => by
    unfold Rep at r ⊢
    exact r
  | .edic, v, r => by
    unfold Rep at r ⊢
    obtain ⟨a, rfl, q, ⟨h1, h2⟩⟩ := r
    exact ⟨a, rfl, q, ⟨h1, fun z => h2 (hp a z)⟩⟩
theorem Reps.back {p : List Addr} (hp : ∀ a ∈ p, a ∈ β.p) : ∀ {ds : List D} {vs : List V}, Reps K H β N ds vs → Reps K H ⟨β.f, p⟩ N ds vs
  | [], _, r => by
    have := r.nilI
    subst this
    exact .nil
  | d :: ds, _, r => by
    obtain ⟨v, w, rfl, r1, r2⟩ := r.consI
    exact .cons (Rep.back hp r1) (Reps.back hp r2)
end
mutual
theorem Rep.wrA {us ws : List V} (hA : H A = some (.lst us)) (hm : A ∈ β.p) : ∀ {d : D} {v : V}, Rep K H β N d v → Rep K (upd H A (.lst ws)) β N d v
  | .non, _, r => r
  | .bl _, _, r => r
  | .int _, _, r => r
  | .str _, _, r => r
  | .tup xs, v, r => by
    unfold Rep at r ⊢
    obtain ⟨a, vs, rfl, q, rs⟩ := r
    exact ⟨a, vs, rfl, sqT_upd (ws := vs) (.inr ⟨us, hA⟩) q, Reps.wrA hA hm rs⟩
  | .tl xs, v, r => by
    unfold Rep at r ⊢
    obtain ⟨a, vs, rfl, q, ⟨h1, h2⟩, rs⟩ := r
    have : a ≠ A := fun z => h2 (z ▸ hm)
    exact ⟨a, vs, rfl, by rw [upd_ne this]; exact q, ⟨h1, h2⟩, Reps.wrA hA hm rs⟩
  | .fl xs, v, r => by
    unfold Rep at r ⊢
    obtain ⟨a, vs, rfl, q, rs⟩ := r
    exact ⟨a, vs, rfl, sqF_upd (.inr ⟨us, hA⟩) q, Reps.wrA hA hm rs⟩
  | .ref n, v, r => by
    unfold Rep at r ⊢
    exact r
  | .edic, v, r => by
    unfold Rep at r ⊢
    obtain ⟨a, rfl, q, ⟨h1, h2⟩⟩ := r
    have : a ≠ A := fun z => h2 (z ▸ hm)
    exact ⟨a, rfl, by rw [upd_ne this]; exact q, ⟨h1, h2⟩⟩
theorem Reps.wrA {us ws : List V} (hA : H A = some (.lst us)) (hm : A ∈ β.p) : ∀ {ds : List D} {vs : List V}, Reps K H β N ds vs → Reps K (upd H A (.lst ws)) β N ds vs
  | [], _, r => by
    have := r.nilI
    subst this
    exact .nil
  | d :: ds, _, r => by
    obtain ⟨v, w, rfl, r1, r2⟩ := r.consI
    exact .cons (Rep.wrA hA hm r1) (Reps.wrA hA hm r2)
end
theorem HeapR.add {o : HO} (h : HeapR K H β M) (hA : H A = none) : HeapR K (upd H A o) (β.add A) M where
  cell := fun n m e => by
    have q := h.cell n m e
    cases m with
    | lst xs =>
      obtain ⟨vs, q, r⟩ := q
      exact ⟨vs, by rw [upd_ne (show (β.add A) n ≠ A from ne_of_none q hA)]; exact q, Reps.add hA r⟩
  inj := h.inj
  prot := fun a ha => by
    rcases List.mem_cons.mp ha with rfl | ha
    · rw [upd_same]; simp
    · exact upd_some (h.prot a ha)
theorem HeapR.back {p : List Addr} (h : HeapR K H β M) (hp : ∀ a ∈ p, a ∈ β.p) : HeapR K H ⟨β.f, p⟩ M where
  cell := fun n m e => by
    have q := h.cell n m e
    cases m with
    | lst xs =>
      obtain ⟨vs, q, r⟩ := q
      exact ⟨vs, q, Reps.back hp r⟩
  inj := h.inj
  prot := fun a ha => h.prot a (hp a ha)
theorem HeapR.wrA {us ws : List V} (h : HeapR K H β M) (hA : H A = some (.lst us)) (hm : A ∈ β.p) (no : ∀ n, n < M.length → β n ≠ A) : HeapR K (upd H A (.lst ws)) β M where
  cell := fun n m e => by
    have q := h.cell n m e
    have hn := (List.getElem?_eq_some_iff.mp e).1
    cases m with
    | lst xs =>
      obtain ⟨vs, q, r⟩ := q
      exact ⟨vs, by rw [upd_ne (no n hn)]; exact q, Reps.wrA hA hm r⟩
  inj := h.inj
  prot := fun a ha => upd_some (h.prot a ha)
theorem SR.add {o : HO} {ρ : Env} {σ : L2.St} (s : SR K none none H β M ρ σ) (hA : H A = none) : SR K none none (upd H A o) (β.add A) M ρ σ :=
  ⟨⟨s.env.len, fun i d e => let ⟨v, q1, q2⟩ := s.env.val i d e; ⟨v, q1, Rep.add hA q2⟩⟩, s.heap.add hA, trivial⟩
theorem SR.wrA {us ws : List V} {ρ : Env} {σ : L2.St} (s : SR K none none H β M ρ σ) (hA : H A = some (.lst us)) (hm : A ∈ β.p) (no : ∀ n, n < M.length → β n ≠ A) : SR K none none (upd H A (.lst ws)) β M ρ σ :=
  ⟨⟨s.env.len, fun i d e => let ⟨v, q1, q2⟩ := s.env.val i d e; ⟨v, q1, Rep.wrA hA hm q2⟩⟩, s.heap.wrA hA hm no, trivial⟩
theorem ItR.add {o : HO} {all : List D} {chk : Option Nat} {J : It} (r : ItR K H β N all chk J) (hA : H A = none) : ItR K (upd H A o) (β.add A) N all chk J := by
  cases r with
  | tl r => exact .tl (Rep.add hA r)
  | fl r => exact .fl (Rep.add hA r)
  | @ref n h => exact ItR.ref (β := β.add A) h
  | tup r => exact .tup (Rep.add hA r)
  | str q => exact .str q
  | rng q => exact .rng q
  | rnc q => exact .rnc q
  | zl q da db ha hb r1 r2 => exact .zl q da db ha hb (Rep.add hA r1) (Rep.add hA r2)
  | zt q r1 r2 => exact .zt q (Rep.add hA r1) (Rep.add hA r2)
theorem ItR.wrA {us ws : List V} {all : List D} {chk : Option Nat} {J : It} (r : ItR K H β N all chk J) (hA : H A = some (.lst us)) (hm : A ∈ β.p) : ItR K (upd H A (.lst ws)) β N all chk J := by
  cases r with
  | tl r => exact .tl (Rep.wrA hA hm r)
  | fl r => exact .fl (Rep.wrA hA hm r)
  | @ref n h => exact ItR.ref (β := β) h
  | tup r => exact .tup (Rep.wrA hA hm r)
  | str q => exact .str q
  | rng q => exact .rng q
  | rnc q => exact .rnc q
  | zl q da db ha hb r1 r2 => exact .zl q da db ha hb (Rep.wrA hA hm r1) (Rep.wrA hA hm r2)
  | zt q r1 r2 => exact .zt q (Rep.wrA hA hm r1) (Rep.wrA hA hm r2)
theorem Ext.reP {β' : Bt} {N' : Nat} {H' : Hp} (e : Ext β N H β' N' H') (p : List Addr) : Ext ⟨β.f, p⟩ N H ⟨β'.f, p⟩ N' H' := ⟨e.le, e.agree, e.fr, e.new, e.tr, rfl⟩
theorem Ext.wrA {β' : Bt} {N' : Nat} {H' : Hp} {o : HO} (e : Ext β N H β' N' H') (hA : H A = none) : Ext β N H β' N' (upd H' A o) :=
  ⟨e.le, e.agree, fun a u h no => by rw [upd_ne (ne_of_none h hA)]; exact e.fr a u h no, e.new, fun a h => by
    by_cases z : a = A
    · rw [z]; exact hA
    · rw [upd_ne z] at h; exact e.tr a h, e.pp⟩
end
section
variable {K : PySem.W.Frag} {H : Hp} {β : Bt} {N : Nat} {A : Addr} {p : List Addr}
mutual
theorem Rep.adopt (hA : A ∈ β.p) (hp : ∀ a ∈ p, a ∈ β.p) : ∀ {d : D} {v : V}, Rep K H β N d v → Rep K H ⟨(ext1 β N A).f, p⟩ (N + 1) d v
  | .non, _, r => r
  | .bl _, _, r => r
  | .int _, _, r => r
  | .str _, _, r => r
  | .tup xs, v, r => by
    unfold Rep at r ⊢
    obtain ⟨a, vs, rfl, q, rs⟩ := r
    exact ⟨a, vs, rfl, q, Reps.adopt hA hp rs⟩
  | .tl xs, v, r => by
    unfold Rep at r ⊢
    obtain ⟨a, vs, rfl, q, hn, rs⟩ := r
    refine ⟨a, vs, rfl, q, ⟨fun n hl z => ?_, fun z => hn.2 (hp a z)⟩, Reps.adopt hA hp rs⟩
    by_cases hN : n < N
    · exact hn.1 n hN ((ext1_lt A hN).symm.trans z)
    · have : n = N := by omega
      subst this
      have e : A = a := (ext1_at β n A).symm.trans z
      subst e
      exact hn.2 hA
  | .fl xs, v, r => by
    unfold Rep at r ⊢
    obtain ⟨a, vs, rfl, q, rs⟩ := r
    exact ⟨a, vs, rfl, q, Reps.adopt hA hp rs⟩
  | .ref n, v, r => by
    unfold Rep at r ⊢
    obtain ⟨hn, rfl⟩ := r
    exact ⟨Nat.lt_succ_of_lt hn, (congrArg V.ref (ext1_lt A hn)).symm⟩
  | .edic, v, r => by
    unfold Rep at r ⊢
    obtain ⟨a, rfl, q, hn⟩ := r
    refine ⟨a, rfl, q, ⟨fun n hl z => ?_, fun z => hn.2 (hp a z)⟩⟩
    by_cases hN : n < N
    · exact hn.1 n hN ((ext1_lt A hN).symm.trans z)
    · have : n = N := by omega
      subst this
      have e : A = a := (ext1_at β n A).symm.trans z
      subst e
      exact hn.2 hA
theorem Reps.adopt (hA : A ∈ β.p) (hp : ∀ a ∈ p, a ∈ β.p) : ∀ {ds : List D} {vs : List V}, Reps K H β N ds vs → Reps K H ⟨(ext1 β N A).f, p⟩ (N + 1) ds vs
  | [], _, r => r
  | d :: ds, vs, r => by
    unfold Reps at r ⊢
    obtain ⟨v, w, rfl, r1, r2⟩ := r
    exact ⟨v, w, rfl, Rep.adopt hA hp r1, Reps.adopt hA hp r2⟩
end
theorem HeapR.adopt {M : MH} {xs : List D} {vs : List V} (h : HeapR K H β M) (hA : A ∈ β.p) (hp : ∀ a ∈ p, a ∈ β.p) (hq : H A = some (.lst vs)) (no : ∀ n, n < M.length → β n ≠ A) (r : Reps K H β M.length xs vs) : HeapR K H ⟨(ext1 β M.length A).f, p⟩ (M ++ [.lst xs]) where
  prot := fun a ha => h.prot a (hp a ha)
  cell := fun n m e => by
    have hl : (M ++ [MO.lst xs]).length = M.length + 1 := by simp
    rw [hl]
    by_cases hn : n < M.length
    · rw [List.getElem?_append_left hn] at e
      have q := h.cell n m e
      cases m with
      | lst ys =>
        obtain ⟨ws, q, r'⟩ := q
        refine ⟨ws, ?_, Reps.adopt hA hp r'⟩
        have e2 : (⟨(ext1 β M.length A).f, p⟩ : Bt) n = β n := ext1_lt A hn
        rw [e2]
        exact q
    · have hz : n < (M ++ [MO.lst xs]).length := (List.getElem?_eq_some_iff.mp e).1
      have : n = M.length := by omega
      subst this
      rw [List.getElem?_append_right (Nat.le_refl _), Nat.sub_self] at e
      cases e
      refine ⟨vs, ?_, Reps.adopt hA hp r⟩
      have e2 : (⟨(ext1 β M.length A).f, p⟩ : Bt) M.length = A := ext1_at β M.length A
      rw [e2]
      exact hq
  inj := fun a b ha hb e => by
    have hl : (M ++ [MO.lst xs]).length = M.length + 1 := by simp
    rw [hl] at ha hb
    have f1 : ∀ n, n < M.length → (⟨(ext1 β M.length A).f, p⟩ : Bt) n = β n := fun n hn => ext1_lt A hn
    have f2 : (⟨(ext1 β M.length A).f, p⟩ : Bt) M.length = A := ext1_at β M.length A
    by_cases h1 : a < M.length
    · by_cases h2 : b < M.length
      · rw [f1 a h1, f1 b h2] at e
        exact h.inj a b h1 h2 e
      · have : b = M.length := by omega
        subst this
        rw [f1 a h1, f2] at e
        exact absurd e (no a h1)
    · have : a = M.length := by omega
      subst this
      by_cases h2 : b < M.length
      · rw [f1 b h2, f2] at e
        exact absurd e.symm (no b h2)
      · omega
end
theorem lc_read {mb : Bool} {s : Sys} {c : Cf} {own : List Nat} {g : G} {it te : E} {t : Option E} (hsl : ∀ i ∈ slots g, i ∈ own) {σ : L2.St} {H : Hp} {Q : VK}
    (h : tD X.K W xa none none (fun ρ M => (itE s c it ρ M).bind fun p M => (noExn (lcL s c g p.1 p.2 t te (wipeE ρ own) p.1 [] M)).bind fun l M => LX.newL mb l M) σ H Q) :
    tLc (tI X.K W xa none none (itE s c it)) (gS X.K g) (tTs X.K xa (tests s c t)) (tD X.K WF xa none none (s.e c te)) own σ H Q := by
  refine tR.seq h fun β ρ M pp J H1 sr r1 h1 => ?_
  obtain ⟨all, chk⟩ := pp
  have r1 : ItR X.K H1 β M.length all chk J := r1
  intro A hA
  have noA : ∀ n, n < M.length → β n ≠ A := fun n hl z => by
    obtain ⟨ws, q⟩ := sr.heap.lt_of hl
    rw [z, hA] at q
    cases q
  refine ⟨fun i m H2 => m = all.length - i ∧ i ≤ all.length ∧ ∃ (β2 : Bt) (M2 : MH) (acc : List D) (vacc : List V), β2.p = A :: β.p ∧ SR X.K none none H2 β2 M2 (wipeE ρ own) (L2.wipe σ own) ∧ ItR X.K H2 β2 M2.length all chk J ∧ Ext β M.length H1 ⟨β2.f, β.p⟩ M2.length H2 ∧ H2 A = some (.lst vacc) ∧ (∀ n, n < M2.length → β2 n ≠ A) ∧ Reps X.K H2 β2 M2.length acc vacc ∧
    Post X.K W xa (RD X.K) σ H1 β M.length ((noExn (lcL s c g all chk t te (wipeE ρ own) (all.drop i) acc M2)).bind fun l M => LX.newL mb l M) Q, ?_, ?_⟩
  · refine ⟨all.length, rfl, Nat.zero_le _, β.add A, M, [], [], rfl, (sr.add hA).wipe _, r1.add hA, Ext.fresh hA, upd_same, noA, Reps.nil, ?_⟩
    exact h1
  · rintro i m H2 ⟨rfl, hi2, β2, M2, acc, vacc, hp2, sr2, it2, e2, hA2, no2, ra2, h2⟩
    have hst : stays M2 all chk = true := by
      cases q : stays M2 all chk with
      | true => rfl
      | false =>
        exfalso
        cases f : all.drop i with
        | nil =>
          rw [f] at h2
          unfold lcL at h2
          rw [q] at h2
          exact h2
        | cons x xs =>
          rw [f] at h2
          unfold lcL at h2
          rw [q] at h2
          exact h2
    by_cases hlt : i < all.length
    · right
      have hx : all[i]? = some all[i] := List.getElem?_eq_getElem hlt
      obtain ⟨g1, g2⟩ := it2.go sr2.heap hst hx
      refine ⟨g1, fun H' => ∃ m', m' < all.length - i ∧ m' = all.length - (i + 1) ∧ i + 1 ≤ all.length ∧ ∃ (β2 : Bt) (M2 : MH) (acc : List D) (vacc : List V), β2.p = A :: β.p ∧ SR X.K none none H' β2 M2 (wipeE ρ own) (L2.wipe σ own) ∧ ItR X.K H' β2 M2.length all chk J ∧ Ext β M.length H1 ⟨β2.f, β.p⟩ M2.length H' ∧ H' A = some (.lst vacc) ∧ (∀ n, n < M2.length → β2 n ≠ A) ∧ Reps X.K H' β2 M2.length acc vacc ∧
        Post X.K W xa (RD X.K) σ H1 β M.length ((noExn (lcL s c g all chk t te (wipeE ρ own) (all.drop (i + 1)) acc M2)).bind fun l M => LX.newL mb l M) Q, fun H' ⟨m', a1, a2⟩ => ⟨m', a1, a2⟩, fun v H' y => ?_⟩
      obtain ⟨ey, hpy, rv⟩ := g2 v H' y
      have hA2 : H' A = some (.lst vacc) := ey.fr _ _ hA2 no2
      have ra2 := Reps.mono sr2.heap ey ra2
      have it2 := it2.mono sr2.heap ey
      have sr2 := sr2.mono ey hpy
      have e2 := e2.trans (ey.reP β.p)
      rw [List.drop_eq_getElem_cons hlt] at h2
      unfold lcL at h2
      rw [if_pos hst] at h2
      cases bg : bindG g all[i] (wipeE ρ own) with
      | none =>
        rw [bg] at h2
        exact h2.elim
      | some ρ' =>
        rw [bg] at h2
        refine gS_blk sr2 rv bg hsl fun σ' sr3 hw => ⟨hw, ?_⟩
        -- the tests
        have h3 : Post X.K W xa (RD X.K) σ H1 β M.length ((noExn ((tests s c t ρ' M2).bind fun k M => if k then (s.e c te ρ' M).bind fun d M => if acc.length < lim then lcL s c g all chk t te (wipeE ρ own) (all.drop (i + 1)) (acc ++ [d]) M else .stuck
            else lcL s c g all chk t te (wipeE ρ own) (all.drop (i + 1)) acc M)).bind fun l M => LX.newL mb l M) Q := h2
        refine ⟨β2, ρ', M2, sr3, ?_⟩
        cases qt : tests s c t ρ' M2 with
        | stuck => rw [qt] at h3; exact h3.elim
        | exn k fs M3 => rw [qt] at h3; exact h3.elim
        | ok b M3 =>
          rw [qt] at h3
          intro β3 H3 b' e3 hp3 rb
          have rb : b = b' := rb
          subst rb
          have no3 : ∀ n, n < M3.length → β3 n ≠ A := fun n hl z => by
            by_cases hn : n < M2.length
            · exact no2 n hn ((e3.agree n hn).symm.trans z)
            · have w := e3.new n (Nat.le_of_not_lt hn) hl
              rw [z, hA2] at w
              cases w
          have hA3 : H3 A = some (.lst vacc) := e3.fr _ _ hA2 no2
          cases b with
          | false =>
            show ∃ m', _
            refine ⟨_, by omega, rfl, hlt, β3, M3, acc, vacc, e3.pp.trans hp2, sr2.mono e3 hp3, it2.mono sr2.heap e3, e2.trans (e3.reP β.p), hA3, no3, Reps.mono sr2.heap e3 ra2, h3⟩
          | true =>
            refine ⟨β3, ρ', M3, sr3.mono e3 hp3, ?_⟩
            have h4 : Post X.K W xa (RD X.K) σ H1 β M.length ((noExn ((s.e c te ρ' M3).bind fun d M => if acc.length < lim then lcL s c g all chk t te (wipeE ρ own) (all.drop (i + 1)) (acc ++ [d]) M else .stuck)).bind fun l M => LX.newL mb l M) Q := h3
            cases qe : s.e c te ρ' M3 with
            | stuck => rw [qe] at h4; exact h4.elim
            | exn k fs M4 => rw [qe] at h4; exact h4.elim
            | ok d M4 =>
              rw [qe] at h4
              intro β4 H4 u e4 hp4 ru
              have no4 : ∀ n, n < M4.length → β4 n ≠ A := fun n hl z => by
                by_cases hn : n < M3.length
                · exact no3 n hn ((e4.agree n hn).symm.trans z)
                · have w := e4.new n (Nat.le_of_not_lt hn) hl
                  rw [z, hA3] at w
                  cases w
              have hA4 : H4 A = some (.lst vacc) := e4.fr _ _ hA3 no3
              have h5 : Post X.K W xa (RD X.K) σ H1 β M.length ((noExn (if acc.length < lim then lcL s c g all chk t te (wipeE ρ own) (all.drop (i + 1)) (acc ++ [d]) M4 else .stuck)).bind fun l M => LX.newL mb l M) Q := h4
              by_cases hz : acc.length < lim
              · rw [if_pos hz] at h5
                have hm : A ∈ β4.p := by rw [e4.pp, e3.pp, hp2]; exact List.mem_cons_self
                refine ⟨vacc, hA4, by rw [ra2.length, lim_eq]; exact hz, _, by omega, rfl, hlt, β4, M4, acc ++ [d], vacc ++ [u], e4.pp.trans (e3.pp.trans hp2), ((sr2.mono e3 hp3).mono e4 hp4).wrA hA4 hm no4, (((it2.mono sr2.heap e3).mono hp3 e4)).wrA hA4 hm, ((e2.trans (e3.reP β.p)).trans (e4.reP β.p)).wrA hA, upd_same, no4, ?_, h5⟩
                exact Reps.wrA hA4 hm ((Reps.mono hp3 e4 (Reps.mono sr2.heap e3 ra2)).append (.one ru))
              · rw [if_neg hz] at h5
                exact h5.elim
    · left
      refine ⟨it2.stop sr2.heap hst (Nat.le_of_not_lt hlt), ?_⟩
      rw [List.drop_eq_nil_of_le (Nat.le_of_not_lt hlt)] at h2
      unfold lcL at h2
      rw [if_pos hst] at h2
      have h3 : Post X.K W xa (RD X.K) σ H1 β M.length (LX.newL mb acc M2) Q := h2
      have hb : ∀ a ∈ β.p, a ∈ β2.p := fun a ha => by rw [hp2]; exact List.mem_cons_of_mem _ ha
      cases mb with
      | false =>
        refine h3 ⟨β2.f, β.p⟩ H2 (.ref A) e2 (sr2.heap.back hb) ?_
        show Rep _ _ _ _ (D.tl acc) _
        unfold Rep
        exact ⟨A, vacc, rfl, hA2, ⟨no2, fun z => sr.heap.prot A z hA⟩, Reps.back hb ra2⟩
      | true =>
        have hA : A ∈ β2.p := by rw [hp2]; exact List.mem_cons_self
        have hl : (M2 ++ [MO.lst acc]).length = M2.length + 1 := by simp
        have h4 : Post X.K W xa (RD X.K) σ H1 β M.length (.ok (.ref M2.length) (M2 ++ [.lst acc])) Q := h3
        refine h4 ⟨(ext1 β2 M2.length A).f, β.p⟩ H2 (.ref A) ?_ (sr2.heap.adopt hA hb hA2 no2 ra2) ?_
        · rw [hl]
          refine ⟨Nat.le_succ_of_le e2.le, fun n hn => ?_, e2.fr, fun n h1 h2 => ?_, e2.tr, rfl⟩
          · exact (ext1_lt A (Nat.lt_of_lt_of_le hn e2.le)).trans (e2.agree n hn)
          · by_cases hn : n < M2.length
            · have q := e2.new n h1 hn
              have e : (⟨(ext1 β2 M2.length A).f, β.p⟩ : Bt) n = β2 n := ext1_lt A hn
              rw [e]
              exact q
            · have : n = M2.length := by omega
              subst this
              have e : (⟨(ext1 β2 M2.length A).f, β.p⟩ : Bt) M2.length = A := ext1_at β2 M2.length A
              rw [e]
              assumption
        · show Rep _ _ _ _ (D.ref M2.length) _
          unfold Rep
          refine ⟨by rw [hl]; exact Nat.lt_succ_self _, ?_⟩
          exact (congrArg V.ref (ext1_at β2 M2.length A)).symm
theorem d_lc {mb : Bool} {s : Sys} {c : Cf} {elt tgE iter : Expr} {ifs : List Expr} {scope : Scope} {own : List (Str × Nat)} {g : G} {it te : E} {t : Option E} (hc : X.calm = true) (hN : X.N.Nodup)
    (hi : PI X tgE iter (tI X.K W xa none none (itE s c it))) (ok : BlkOk X.N X.env.scope scope own) (hsl : ∀ i ∈ slots g, i ∈ own.map (·.2))
    (hg : ∀ (s : Shared) (H : Hp) (C : Addr) (cl : List (Str × Addr)) (fp : List Addr), PG (X.blk s H scope (compEnvC scope cl C X.env) fp) tgE (gS X.K g))
    (ht : ∀ (s' : Shared) (H : Hp) (C : Addr) (cl : List (Str × Addr)) (fp : List Addr), PTs (X.blk s' H scope (compEnvC scope cl C X.env) fp) ifs (tTs X.K xa (tests s c t)))
    (he : ∀ (s' : Shared) (H : Hp) (C : Addr) (cl : List (Str × Addr)) (fp : List Addr), PE (X.blk s' H scope (compEnvC scope cl C X.env) fp) elt (tD X.K WF xa none none (s.e c te)))
    (hs : ∀ x, foldedSetIterable iter X.env x = pure x) :
    PE X (.ListComp elt [⟨tgE, iter, ifs, 0⟩] scope pos) (tD X.K W xa none none fun ρ M => (itE s c it ρ M).bind fun p M => (noExn (lcL s c g p.1 p.2 t te (wipeE ρ (own.map (·.2))) p.1 [] M)).bind fun l M => LX.newL mb l M) :=
  PE.imp (pe_lc hc hN hi ok hg ht he hs) fun σ H Q h => lc_read hsl h
end
end LX

set_option Elab.async false
set_option linter.all false
set_option maxRecDepth 100000
set_option maxHeartbeats 2000000
/-! LxStmt: the rules of statements. -/
namespace LX
open PySem L2 PyProof.Rows
def PostS (K : PySem.W.Frag) (W : WX) (xa : Nat → Addr) (hx : Option Hx) (η : Option (Nat × Flds)) (H : Hp) (β : Bt) (N : Nat) (r : SRes) (D : Ends) : Prop :=
  match r with
  | .nx ρ M' => ∀ β' H' σ', Ext β N H β' M'.length H' → SR K hx η H' β' M' ρ σ' → D.nx σ' H'
  | .bk ρ M' => ∀ β' H' σ', Ext β N H β' M'.length H' → SR K hx η H' β' M' ρ σ' → D.bk σ' H'
  | .ct ρ M' => ∀ β' H' σ', Ext β N H β' M'.length H' → SR K hx η H' β' M' ρ σ' → D.ct σ' H'
  | .rt d M' => ∀ β' H' v, Ext β N H β' M'.length H' → HeapR K H' β' M' → Rep K H' β' M'.length d v → D.rt v H'
  | .exn c fs ρ M' => ∀ β' H' σ' dx fvs, Ext β N H β' M'.length H' → SR K hx η H' β' M' ρ σ' → H' dx = some (.xd fvs) → (∀ f d, fs.lookup f = some d → ∃ v, fvs.lookup f = some v ∧ Rep K H' β' M'.length d v) → W (.ref (xa c)) (some dx) σ' H'
  | .stuck => False
def tS (K : PySem.W.Frag) (W : WX) (xa : Nat → Addr) (hx : Option Hx) (η : Option (Nat × Flds)) (f : Env → MH → SRes) : TS := fun D σ H => ∃ β ρ M, SR K hx η H β M ρ σ ∧ PostS K W xa hx η H β M.length (f ρ M) D
section
variable {K : PySem.W.Frag} {W : WX} {xa : Nat → Addr} {hx : Option Hx} {η : Option (Nat × Flds)} {H H1 : Hp} {β β1 : Bt} {N N1 : Nat} {D : Ends}
theorem PostS.ext {r : SRes} (h : PostS K W xa hx η H β N r D) (e : Ext β N H β1 N1 H1) : PostS K W xa hx η H1 β1 N1 r D := by
  cases r with
  | nx ρ M' => exact fun β' H' σ' e' s => h β' H' σ' (e.trans e') s
  | bk ρ M' => exact fun β' H' σ' e' s => h β' H' σ' (e.trans e') s
  | ct ρ M' => exact fun β' H' σ' e' s => h β' H' σ' (e.trans e') s
  | rt d M' => exact fun β' H' v e' hp r => h β' H' v (e.trans e') hp r
  | exn c fs ρ M' => exact fun β' H' σ' dx fvs e' s a b => h β' H' σ' dx fvs (e.trans e') s a b
  | stuck => exact h
theorem PostS.sbind {α A : Type} {R : Hp → Bt → Nat → α → A → Prop} {r : Res α} {ρ : Env} {σ : L2.St} {M : MH} {k : α → MH → SRes} (sr : SR K hx η H β M ρ σ) (h : PostS K W xa hx η H β M.length (r.sbind ρ k) D) :
    Post K W xa R σ H β M.length r fun a H1 => ∃ β1 M1 x, SR K hx η H1 β1 M1 ρ σ ∧ (∀ {d : LX.D} {u : V}, Rep K H β M.length d u → Rep K H1 β1 M1.length d u) ∧ R H1 β1 M1.length x a ∧ PostS K W xa hx η H1 β1 M1.length (k x M1) D := by
  cases r with
  | ok x M1 => exact fun β1 H1 v e hp rv => ⟨β1, M1, x, sr.mono e hp, Rep.mono sr.heap e, rv, PostS.ext h e⟩
  | exn c fs M1 => exact fun β1 H1 dx fvs e hp a b => h β1 H1 σ dx fvs e (sr.mono e hp) a b
  | stuck => exact h
end
/-- an expression, then the rest of its statement -/
theorem tR.sseq {α A : Type} {R : PySem.W.Frag → Hp → Bt → Nat → α → A → Prop} {K : PySem.W.Frag} {W : WX} {xa : Nat → Addr} {hx : Option Hx} {η : Option (Nat × Flds)} {f : Env → MH → Res α} {g : α → Env → MH → SRes} {σ : L2.St} {H : Hp} {D : Ends}
    (h : tS K W xa hx η (fun ρ M => (f ρ M).sbind ρ fun x M => g x ρ M) D σ H) {P : A → Hp → Prop}
    (i : ∀ β ρ M x v H1, SR K hx η H1 β M ρ σ → R K H1 β M.length x v → PostS K W xa hx η H1 β M.length (g x ρ M) D → P v H1) : tR R K W xa hx η f σ H P := by
  obtain ⟨β, ρ, M, sr, h⟩ := h
  exact ⟨β, ρ, M, sr, (PostS.sbind (R := R K) sr h).mono fun v H1 ⟨β1, M1, x, s1, _, r1, h1⟩ => i β1 ρ M1 x v H1 s1 r1 h1⟩
theorem tR.sseq2 {α A : Type} {R : PySem.W.Frag → Hp → Bt → Nat → α → A → Prop} {K : PySem.W.Frag} {W : WX} {xa : Nat → Addr} {hx : Option Hx} {η : Option (Nat × Flds)} {f : Env → MH → Res α} {g : α → MH → SRes} {σ : L2.St} {H : Hp} {D : Ends}
    {β : Bt} {ρ : Env} {M : MH} (sr : SR K hx η H β M ρ σ) (h : PostS K W xa hx η H β M.length ((f ρ M).sbind ρ fun x M => g x M) D) {P : A → Hp → Prop}
    (i : ∀ β1 M1 x v H1, SR K hx η H1 β1 M1 ρ σ → (∀ {d : LX.D} {u : V}, Rep K H β M.length d u → Rep K H1 β1 M1.length d u) → R K H1 β1 M1.length x v → PostS K W xa hx η H1 β1 M1.length (g x M1) D → P v H1) : tR R K W xa hx η f σ H P :=
  ⟨β, ρ, M, sr, (PostS.sbind (R := R K) sr h).mono fun v H1 ⟨β1, M1, x, s1, mo, r1, h1⟩ => i β1 M1 x v H1 s1 mo r1 h1⟩
section
variable {X : Cx} {W : WX} {xa : Nat → Addr} {hx : Option Hx} {η : Option (Nat × Flds)} {e a b o i e3 : Expr} {es : List Expr} {pos p p' : Pos} {st : Stmt} {sts ss1 ss2 : List Stmt} {fa fb fc fd : Env → MH → Res D} {ga gb : Env → MH → SRes} {x : Str} {k : Nat}
theorem PS.imp {t t' : TS} (h : PS X st t) (i : ∀ D σ H, t' D σ H → t D σ H) : PS X st t' := ⟨fun pins s σ H D I q => h.run pins s σ H D I (i D σ H q)⟩
theorem PSs.imp {t t' : TS} (h : PSs X sts t) (i : ∀ D σ H, t' D σ H → t D σ H) : PSs X sts t' := ⟨fun pins s σ H D I q => h.run pins s σ H D I (i D σ H q)⟩
theorem s_expr (h : PE X e (tD X.K W xa hx η fa)) (hs : swapsWith e none pos.line X.env = pure false) : PS X (.Expr e pos) (tS X.K W xa hx η fun ρ M => (fa ρ M).sbind ρ fun _ M => .nx ρ M) :=
  PS.imp (ps_expr h hs) fun D σ H q => tR.sseq q fun β ρ M d v H1 sr r1 h1 => h1 β H1 σ (Ext.refl ..) sr
theorem s_ret (h : PE X e (tD X.K W xa hx η fa)) : PS X (.Return (some e) pos) (tS X.K W xa hx η fun ρ M => (fa ρ M).sbind ρ fun d M => .rt d M) :=
  PS.imp (ps_ret h) fun D σ H q => tR.sseq q fun β ρ M d v H1 sr r1 h1 => h1 β H1 v (Ext.refl ..) sr.heap r1
theorem s_retN : PS X (.Return none pos) (tS X.K W xa hx η fun ρ M => .rt .non M) := PS.imp ps_retN fun D σ H ⟨β, ρ, M, sr, h⟩ => h β H .non (Ext.refl ..) sr.heap rfl
theorem s_pass : PS X (.Pass pos) (tS X.K W xa hx η fun ρ M => .nx ρ M) := PS.imp ps_pass fun D σ H ⟨β, ρ, M, sr, h⟩ => h β H σ (Ext.refl ..) sr
theorem s_brk : PS X (.Break pos) (tS X.K W xa hx η fun ρ M => .bk ρ M) := PS.imp ps_break fun D σ H ⟨β, ρ, M, sr, h⟩ => h β H σ (Ext.refl ..) sr
theorem s_cont : PS X (.Continue pos) (tS X.K W xa hx η fun ρ M => .ct ρ M) := PS.imp ps_continue fun D σ H ⟨β, ρ, M, sr, h⟩ => h β H σ (Ext.refl ..) sr
theorem s_set (hN : X.N.Nodup) (hi : X.N[k]? = some x) (hl : Loc X.env.scope x) (hf : X.fn x = true ∨ X.env.scope.names.lookup x = some .local) (hfr : freeI hx k) (h : PE X e (tD X.K W xa hx η fa)) (hs : swapsWith e (some (.Name x p')) pos.line X.env = pure false) :
    PS X (.Assign [.Name x p'] e pos) (tS X.K W xa hx η fun ρ M => (fa ρ M).sbind ρ fun d M => .nx (ρ.set k (some d)) M) :=
  PS.imp (ps_set hN hi hl h hs hf) fun D σ H q => tR.sseq q fun β ρ M d v H1 sr r1 h1 => h1 β H1 _ (Ext.refl ..) (sr.set r1 hfr)
theorem s_unp {is : List Nat} {ts : List Expr} {k0 : Nat} {tp : Pos} (hc : X.calm = true) (hl : is.length = ts.length) (hn : ∀ (k i : Nat) (t : Expr), is[k]? = some i → ts[k]? = some t → ∃ x p, t = Expr.Name x p ∧ X.N[i]? = some x ∧ Loc X.env.scope x ∧ (X.fn x = true ∨ X.env.scope.names.lookup x = some .local)) (nd : X.N.Nodup)
    (h1 : (assignEach ts X.env).length = is.length) (h2 : (assignEach ts X.env).findIdx? (·.1) = none) (hfr : ∀ i ∈ is, freeI hx i) (h : PE X e (tD X.K W xa hx η fa)) (hs : swapsWithSole [.Tuple ts k0 tp] e pos.line X.env = pure false) (hw : swappedStores [.Tuple ts k0 tp] e X.env = pure none) :
    PS X (.Assign [.Tuple ts k0 tp] e pos) (tS X.K W xa hx η fun ρ M => (fa ρ M).sbind ρ fun d M => match bindG (.tup is) d ρ with
      | some ρ' => .nx ρ' M
      | none => .stuck) :=
  PS.imp (ps_asg h (g_tup hc hl hn nd h1 h2) hs hw rfl) fun D σ H q => tR.sseq q fun β ρ M d v H1 sr r1 h1 => by
    cases f : bindG (.tup is) d ρ with
    | none => rw [f] at h1; exact h1.elim
    | some ρ' =>
      rw [f] at h1
      exact gS_of sr r1 f hfr fun σ' s' => h1 β H1 σ' (Ext.refl ..) s'
theorem s_unl {is : List Nat} {ts : List Expr} {k0 : Nat} {tp : Pos} (hc : X.calm = true) (hl : is.length = ts.length) (hn : ∀ (k i : Nat) (t : Expr), is[k]? = some i → ts[k]? = some t → ∃ x p, t = Expr.Name x p ∧ X.N[i]? = some x ∧ Loc X.env.scope x ∧ (X.fn x = true ∨ X.env.scope.names.lookup x = some .local)) (nd : X.N.Nodup)
    (h1 : (assignEach ts X.env).length = is.length) (h2 : (assignEach ts X.env).findIdx? (·.1) = none) (hfr : ∀ i ∈ is, freeI hx i) (h : PE X e (tD X.K W xa hx η fa)) (hs : swapsWithSole [.Tuple ts k0 tp] e pos.line X.env = pure false) (hw : swappedStores [.Tuple ts k0 tp] e X.env = pure none) :
    PS X (.Assign [.Tuple ts k0 tp] e pos) (tS X.K W xa hx η fun ρ M => (fa ρ M).sbind ρ fun d M => match tlOf M d with
      | some xs => if is.length = xs.length then .nx (LX.setAll is xs ρ) M else .stuck
      | none => .stuck) :=
  PS.imp (ps_asg h (pg_unl hc (g_names hl hn nd) h1 h2) hs hw rfl) fun D σ H q => tR.sseq q fun β ρ M d v H1 sr r1 h1 => by
    cases f : tlOf M d with
    | none => rw [f] at h1; exact h1.elim
    | some xs =>
      rw [f] at h1
      dsimp only at h1
      by_cases hz : is.length = xs.length
      · rw [if_pos hz] at h1
        obtain ⟨a, vs, rfl, q1, rs⟩ := r1.tlO sr.heap f
        refine ⟨a, vs, rfl, SqL.of q1, by rw [rs.length, hz], by rw [rs.length, hz], ?_⟩
        exact h1 β H1 _ (Ext.refl ..) (sr.setAll rs hfr)
      · rw [if_neg hz] at h1
        exact h1.elim
theorem s_par {y : Str} {j : Nat} {px py pt : Pos} {kt k2 : Nat} {pt2 : Pos} (hc : X.calm = true) (hN : X.N.Nodup) (hi : X.N[k]? = some x) (hj : X.N[j]? = some y) (hij : k ≠ j) (hlx : X.env.scope.names.lookup x = some .local) (hly : X.env.scope.names.lookup y = some .local)
    (ha : PE X a (tD X.K W xa hx η fa)) (hb : PE X b (tD X.K W xa hx η fb)) (hsa : noStar a = true) (hsb : noStar b = true) (hf1 : freeI hx k) (hf2 : freeI hx j)
    (hw : swappedStores [.Tuple [.Name x px, .Name y py] kt pt] (.Tuple [a, b] k2 pt2) X.env = pure (some [x, y])) :
    PS X (.Assign [.Tuple [.Name x px, .Name y py] kt pt] (.Tuple [a, b] k2 pt2) pos) (tS X.K W xa hx η fun ρ M => (fa ρ M).sbind ρ fun x M => (fb ρ M).sbind ρ fun y M => .nx ((ρ.set k (some x)).set j (some y)) M) :=
  PS.imp (ps_par hc hN hi hj hij hlx hly (pa_cons ha (pa_cons hb pa_nil (star1 (noStar_ne hsb))) (star1 (noStar_ne hsa))) hw rfl) fun D σ H q => tR.sseq q fun β ρ M d v H1 sr r1 h1 => tR.sseq2 sr h1 fun β2 M2 d2 v2 H2 sr2 mo r2 h2 =>
    ⟨v, v2, rfl, h2 β2 H2 _ (Ext.refl ..) ((sr2.set (mo r1) hf1).set r2 hf2)⟩
theorem s_put (ho : PE X o (tD X.K W xa hx η fb)) (hi : PE X i (tD X.K W xa hx η fc)) (h : PE X e (tD X.K W xa hx η fa)) (ha : ∀ v, assign (.Subscript o i p') X.env v = (do
      let ov ← holding [v] (eval o X.env)
      let iv ← holding [v, ov] (eval i X.env)
      standAt p'
      holding [v, ov, iv] (setItem ov iv v)
      release [v, ov, iv] [])) (hs : swapsWithSole [.Subscript o i p'] e pos.line X.env = pure false) :
    PS X (.Assign [.Subscript o i p'] e pos) (tS X.K W xa hx η fun ρ M => (fa ρ M).sbind ρ fun v M => (fb ρ M).sbind ρ fun x M => (fc ρ M).sbind ρ fun y M => match putD M x y v with
      | some M => .nx ρ M
      | none => .stuck) :=
  PS.imp (ps_asg h (pg_sub ho hi set_list ha) hs rfl rfl) fun D σ H q => tR.sseq q fun β ρ M d v H1 sr r1 h1 => tR.sseq2 sr h1 fun β2 M2 x v2 H2 sr2 mo r2 h2 => tR.sseq2 sr2 h2 fun β3 M3 y v3 H3 sr3 mo3 r3 h3 => by
    cases f : putD M3 x y d with
    | none => rw [f] at h3; exact h3.elim
    | some M4 =>
      rw [f] at h3
      cases x with
      | ref n =>
        cases y with
        | int j =>
          have f' : ((lstAt M3 n).bind fun xs => (ixN xs.length j).map fun q => M3.set n (.lst (xs.set q d))) = some M4 := f
          obtain ⟨xs, e1, e2⟩ := Option.bind_eq_some_iff.mp f'
          obtain ⟨q, e3, e4⟩ := Option.map_eq_some_iff.mp e2
          subst e4
          obtain ⟨hn, vs, hq, rs⟩ := sr3.heap.lst e1
          have r2' := mo3 r2
          unfold Rep at r2'
          refine ⟨_, vs, j, q, r2'.2, r3, hq, by rw [rs.length]; exact e3, ?_⟩
          have rd := mo3 (mo r1)
          have ht : H3 (β3 n) ≠ none := by rw [hq]; simp
          refine h3 β3 _ σ (by rw [List.length_set]; exact Ext.write hn ht) (SR.mono sr3 (by rw [List.length_set]; exact Ext.write hn ht) (sr3.heap.write hn (rs.set q rd)))
        | _ => cases f
      | _ => cases y <;> cases f
theorem aug_ok {op : Operator} : OpR X (inplaceOp op) (r2 X.K WT xa [] fun M x y => augD M op x y) := by
  intro pins s σ H x y v u Q I rx ry h
  obtain ⟨β, M, a, b, hp, ra, rb, h⟩ := h
  unfold augD at h
  dsimp only at h
  split at h
  · exact iop_add pins s σ H x y v u Q I rx ry ⟨_, _, ra, rb, h.okR hp rfl⟩
  · exact iop_sub pins s σ H x y v u Q I rx ry ⟨_, _, ra, rb, h.okR hp rfl⟩
  · obtain ⟨hz, h⟩ := Post.ite h
    exact iop_mul pins s σ H x y v u Q I rx ry ⟨_, _, ra, rb, smallI_ok hz, h.okR hp rfl⟩
  · obtain ⟨hz, h⟩ := Post.ite h
    obtain ⟨_, rfl⟩ := ra.strI
    obtain ⟨_, rfl⟩ := rb.strI
    refine iop_add_str pins s σ H _ _ v u Q I rx ry ⟨_, _, rfl, rfl, by rw [len_str_arr, len_str_arr, lim_eq]; exact hz, ?_⟩
    rw [app_str_arr]
    exact h.okR hp (Rep.mkStr (by rw [List.length_append]; exact hz))
  · exact h.elim
theorem s_aug {op : Operator} (hN : X.N.Nodup) (hi : X.N[k]? = some x) (hl : Loc X.env.scope x) (hf : X.fn x = true ∨ X.env.scope.names.lookup x = some .local) (hfr : freeI hx k) (h : PE X e (tD X.K W xa hx η fa)) :
    PS X (.AugAssign (.Name x p') op e pos) (tS X.K W xa hx η fun ρ M => match ρ[k]? with
      | some (some x) => (fa ρ M).sbind ρ fun y M => (augD M op x y).sbind ρ fun d M => .nx (ρ.set k (some d)) M
      | _ => .stuck) :=
  PS.imp (ps_aug hN hi hl h (fun pins s σ H x y v u Q I rx ry q => aug_ok (X := X) (xa := xa) pins s σ H x y v u Q I rx ry q) hf) fun D σ H q => by
    obtain ⟨β, ρ, M, sr, q⟩ := q
    dsimp only at q
    split at q
    · rename_i d hd
      obtain ⟨v, e1, r1⟩ := sr.env.val k d hd
      refine ⟨v, e1, tR.sseq2 sr q fun β2 M2 y v2 H2 sr2 mo r2 h2 => ⟨β2, M2, d, y, sr2.heap, mo r1, r2, ?_⟩⟩
      exact Post.toT (σ := σ) (W := W) ((PostS.sbind (R := RD X.K) sr2 h2).mono fun v3 H3 ⟨β3, M3, z, s3, _, r3, h3⟩ => h3 β3 H3 _ (Ext.refl ..) (s3.set r3 hfr))
    · exact q.elim
theorem s_ite (hc : PT X e (tT X.K W xa hx η fa)) (h1 : PSs X ss1 (tS X.K W xa hx η ga)) (h2 : PSs X ss2 (tS X.K W xa hx η gb)) :
    PS X (.If e ss1 ss2 pos) (tS X.K W xa hx η fun ρ M => (fa ρ M).sbind ρ fun d M => match asBl d with
      | some true => ga ρ M
      | some false => gb ρ M
      | none => .stuck) :=
  PS.imp (ps_if hc h1 h2) fun D σ H q => tR.sseq q fun β ρ M d v H1 sr r1 h1 => by
    cases f : asBl d with
    | none => rw [f] at h1; exact h1.elim
    | some b =>
      rw [f] at h1
      have := asBl_some f
      subst this
      refine ⟨b, r1, ?_⟩
      cases b with
      | true => exact ⟨β, ρ, M, sr, h1⟩
      | false => exact ⟨β, ρ, M, sr, h1⟩
theorem ss_nil : PSs X [] (tS X.K W xa hx η fun ρ M => .nx ρ M) := PSs.imp pss_nil fun D σ H ⟨β, ρ, M, sr, h⟩ => h β H σ (Ext.refl ..) sr
theorem PostS.seq {K : PySem.W.Frag} {H : Hp} {β : Bt} {N : Nat} {D : Ends} {r : SRes} {k : Env → MH → SRes} (h : PostS K W xa hx η H β N (r.sbind k) D) : PostS K W xa hx η H β N r { D with nx := tS K W xa hx η k D } := by
  cases r with
  | nx ρ M' => exact fun β' H' σ' e s => ⟨β', ρ, M', s, PostS.ext h e⟩
  | _ => exact h
theorem ss_cons (h1 : PS X st (tS X.K W xa hx η ga)) (h2 : PSs X sts (tS X.K W xa hx η gb)) : PSs X (st :: sts) (tS X.K W xa hx η fun ρ M => (ga ρ M).sbind gb) :=
  PSs.imp (pss_cons h1 h2) fun D σ H ⟨β, ρ, M, sr, h⟩ => ⟨β, ρ, M, sr, h.seq⟩
/-! ### loops -/
theorem s_for {s : Sys} {c : Cf} {g : G} {it : E} {bs : List S} {tg iter : Expr} {body : List Stmt} (hp : PassesOwn (model X.prog X.w) X.A X.env X.xe) (hc : X.calm = true) (hi : PI X tg iter (tI X.K W xa hx η (itE s c it))) (hg : PG X tg (gS X.K g)) (hfr : ∀ i ∈ slots g, freeI hx i)
    (hb : PSs X body (tS X.K W xa hx η (s.ss c bs))) (hs : ∀ x, foldedSetIterable iter X.env x = pure x) :
    PS X (.For tg iter body [] pos) (tS X.K W xa hx η fun ρ M => (itE s c it ρ M).sbind ρ fun p M => forL s c g p.1 p.2 bs p.1 ρ M) := by
  refine PS.imp (ps_for hp hc hi hg hb hs) fun D σ H q => tR.sseq q fun β ρ M pp J H1 sr r1 h1 => ?_
  obtain ⟨all, chk⟩ := pp
  have r1 : ItR X.K H1 β M.length all chk J := r1
  refine ⟨fun i m σ2 H2 => m = all.length - i ∧ i ≤ all.length ∧ ∃ β2 ρ2 M2, SR X.K hx η H2 β2 M2 ρ2 σ2 ∧ ItR X.K H2 β2 M2.length all chk J ∧ PostS X.K W xa hx η H2 β2 M2.length (forL s c g all chk bs (all.drop i) ρ2 M2) D, ⟨all.length, rfl, Nat.zero_le _, β, ρ, M, sr, r1, h1⟩, ?_⟩
  rintro i m σ2 H2 ⟨rfl, hi2, β2, ρ2, M2, sr2, it2, h2⟩
  have hst : stays M2 all chk = true := by
    cases q : stays M2 all chk with
    | true => rfl
    | false =>
      exfalso
      cases f : all.drop i with
      | nil =>
        rw [f] at h2
        unfold forL at h2
        rw [q] at h2
        exact h2
      | cons x xs =>
        rw [f] at h2
        unfold forL at h2
        rw [q] at h2
        exact h2
  by_cases hlt : i < all.length
  · right
    obtain ⟨g1, g2⟩ := it2.go sr2.heap hst (List.getElem?_eq_getElem hlt)
    refine ⟨g1, fun σ' H' => ∃ β2 ρ2 M2, SR X.K hx η H' β2 M2 ρ2 σ' ∧ ItR X.K H' β2 M2.length all chk J ∧ PostS X.K W xa hx η H' β2 M2.length (forL s c g all chk bs (all.drop (i + 1)) ρ2 M2) D, fun σ' H' q => ⟨all.length - (i + 1), by omega, rfl, hlt, q⟩, fun v H' y => ?_⟩
    obtain ⟨ey, hpy, rv⟩ := g2 v H' y
    have it2 := it2.mono sr2.heap ey
    have h2 := PostS.ext h2 ey
    have sr2 := sr2.mono ey hpy
    rw [List.drop_eq_getElem_cons hlt] at h2
    unfold forL at h2
    rw [if_pos hst] at h2
    cases bg : bindG g all[i] ρ2 with
    | none => rw [bg] at h2; exact h2.elim
    | some ρ' =>
      rw [bg] at h2
      dsimp only at h2
      refine gS_of sr2 rv bg hfr fun σ' sr3 => ⟨β2, ρ', M2, sr3, ?_⟩
      cases qb : s.ss c bs ρ' M2 with
      | nx ρ3 M3 => rw [qb] at h2; exact fun β3 H3 σ3 e3 s3 => ⟨β3, ρ3, M3, s3, it2.mono sr2.heap e3, PostS.ext h2 e3⟩
      | ct ρ3 M3 => rw [qb] at h2; exact fun β3 H3 σ3 e3 s3 => ⟨β3, ρ3, M3, s3, it2.mono sr2.heap e3, PostS.ext h2 e3⟩
      | bk ρ3 M3 => rw [qb] at h2; exact h2
      | rt d M3 => rw [qb] at h2; exact h2
      | exn k fs ρ3 M3 => rw [qb] at h2; exact h2
      | stuck => rw [qb] at h2; exact h2.elim
  · left
    refine ⟨it2.stop sr2.heap hst (Nat.le_of_not_lt hlt), ?_⟩
    rw [List.drop_eq_nil_of_le (Nat.le_of_not_lt hlt)] at h2
    unfold forL at h2
    rw [if_pos hst] at h2
    exact h2 β2 H2 σ2 (Ext.refl ..) sr2
theorem s_wh {n : Nat} {F : Nat → Env → MH → SRes} {f : Nat → Env → MH → Res D} {g : Nat → Env → MH → SRes} {body : List Stmt} (hp : PassesOwn (model X.prog X.w) X.A X.env X.xe) (hc : ∀ k, k < n → PT X e (tT X.K W xa hx η (f k))) (hb : ∀ k, k < n → PSs X body (tS X.K W xa hx η (g k)))
    (h0 : ∀ ρ M, F 0 ρ M = .stuck) (hF : ∀ k, k < n → ∀ ρ M, F (k + 1) ρ M = (f k ρ M).sbind ρ fun d M => match asBl d with
      | some true => match g k ρ M with
        | .nx ρ M => F k ρ M
        | .ct ρ M => F k ρ M
        | .bk ρ M => .nx ρ M
        | r => r
      | some false => .nx ρ M
      | none => .stuck) : PS X (.While e body [] pos) (tS X.K W xa hx η (F n)) := by
  have hc' : PT X e (fun σ H Q => ∃ k, k < n ∧ tT X.K W xa hx η (f k) σ H Q) := ⟨fun pins s σ H Q I ⟨k, hk, q⟩ => (hc k hk).run pins s σ H Q I q⟩
  have hb' : PSs X body (fun D σ H => ∃ k, k < n ∧ tS X.K W xa hx η (g k) D σ H) := ⟨fun pins s σ H D I ⟨k, hk, q⟩ => (hb k hk).run pins s σ H D I q⟩
  refine PS.imp (ps_while hp hc' hb') fun D σ H q => ?_
  refine ⟨fun m σ2 H2 => m ≤ n ∧ tS X.K W xa hx η (F m) D σ2 H2, ⟨n, Nat.le_refl _, q⟩, ?_⟩
  rintro m σ2 H2 ⟨hm, β2, ρ2, M2, sr2, h2⟩
  cases m with
  | zero => rw [h0] at h2; exact h2.elim
  | succ k =>
    rw [hF k hm] at h2
    refine ⟨k, hm, tR.sseq2 (R := RD) sr2 h2 fun β3 M3 d v H3 sr3 mo r3 h3 => ?_⟩
    cases q1 : asBl d with
    | none => rw [q1] at h3; exact h3.elim
    | some b =>
      rw [q1] at h3
      have := asBl_some q1
      subst this
      refine ⟨b, r3, ?_⟩
      cases b with
      | false => exact h3 β3 H3 σ2 (Ext.refl ..) sr3
      | true =>
        refine ⟨fun σ' H' => tS X.K W xa hx η (F k) D σ' H', fun σ' H' q => ⟨k, Nat.lt_succ_self _, Nat.le_of_lt hm, q⟩, k, hm, β3, ρ2, M3, sr3, ?_⟩
        have h4 : PostS X.K W xa hx η H3 β3 M3.length (match g k ρ2 M3 with
          | .nx ρ M => F k ρ M
          | .ct ρ M => F k ρ M
          | .bk ρ M => .nx ρ M
          | r => r) D := h3
        cases qb : g k ρ2 M3 with
        | nx ρ4 M4 => rw [qb] at h4; exact fun β4 H4 σ4 e4 s4 => ⟨β4, ρ4, M4, s4, PostS.ext h4 e4⟩
        | ct ρ4 M4 => rw [qb] at h4; exact fun β4 H4 σ4 e4 s4 => ⟨β4, ρ4, M4, s4, PostS.ext h4 e4⟩
        | bk ρ4 M4 => rw [qb] at h4; exact h4
        | rt d M4 => rw [qb] at h4; exact h4
        | exn k fs ρ4 M4 => rw [qb] at h4; exact h4
        | stuck => rw [qb] at h4; exact h4.elim
end
end LX

set_option Elab.async false
set_option linter.all false
set_option maxRecDepth 100000
set_option maxHeartbeats 2000000
/-! LxExc: own exceptions: their making, raise, try, their fields, their kinds. -/
namespace LX
open PySem L2 PyProof.Rows
/-! ### a def's names -/
def fscC (N ps : List Str) (sc : Scope) : Bool :=
  (match sc.kind with
    | .function => true
    | _ => false) && !sc.isCoroutine && !sc.isGenerator && decide N.Nodup && decide (N.take ps.length = ps) && ps.all (fun x => match sc.names.lookup x with
    | some .local => true
    | some .cell => true
    | _ => false) && sc.names.all fun y => match y.2 with
    | .free => false
    | _ => true
theorem fsc_by {N ps : List Str} {sc : Scope} (h : fscC N ps sc = true) : FnScope N ps sc := by
  unfold fscC at h
  simp only [Bool.and_eq_true, decide_eq_true_eq, Bool.not_eq_true', List.all_eq_true] at h
  obtain ⟨⟨⟨⟨⟨⟨h1, h2⟩, h3⟩, h4⟩, h5⟩, h6⟩, h7⟩ := h
  refine ⟨?_, h2, h3, h4, h5, fun x hx => ?_, fun y hy e => ?_⟩
  · split at h1
    · assumption
    · cases h1
  · have q := h6 x hx
    split at q <;> first | exact .inl (by assumption) | exact .inr (by assumption) | cases q
  · have q := h7 y hy
    rw [e] at q
    cases q
def locB (sc : Scope) (x : Str) : Bool := match sc.names.lookup x with
  | some .local => true
  | some .cell => true
  | _ => false
theorem locB_ok {sc : Scope} {x : Str} (h : locB sc x = true) : Loc sc x := by
  unfold locB at h
  split at h <;> first | exact .inl (by assumption) | exact .inr (by assumption) | cases h
def visB (sc : Scope) (x : Str) : Bool := match sc.names.lookup x with
  | some .local => true
  | some .cell => true
  | some .free => true
  | _ => false
theorem visB_ok {sc : Scope} {x : Str} (h : visB sc x = true) : Vis sc x := by
  unfold visB at h
  split at h <;> first | exact .inl (by assumption) | exact .inr (.inl (by assumption)) | exact .inr (.inr (by assumption)) | cases h
def nm (x : Str) : Bool := !(x == ("__debug__" : Str)) && !(x == ("__classdict__" : Str))
theorem nm_ok {x : Str} (h : nm x = true) : (x == ("__debug__" : Str)) = false ∧ (x == ("__classdict__" : Str)) = false := by
  unfold nm at h
  rw [Bool.and_eq_true, Bool.not_eq_true', Bool.not_eq_true'] at h
  exact h
/-! ### __init__ -/
def spI (C : Addr) (flds : List Str) : Sp := fun vs H Q _ => ∃ a ws, vs = .ref a :: ws ∧ ws.length = flds.length ∧ H a = some (exo a C none) ∧
  ∀ dx H', H dx = none → dx ≠ a → H' a = some (exo a C (some dx)) → H' dx = some (exd dx (flds.zip ws).reverse) → (∀ b, b ≠ a → b ≠ dx → H' b = H b) → Q .non H'
def initC (N : List Str) (sc : Scope) : Nat → List Str → List Stmt → Bool
  | _, [], [] => true
  | j, f :: fs, .Assign [.Attribute (.Name s _) f' _] (.Name y _) _ :: r => decide (f = f') && (decide (N[0]? = some s) && (decide (N[j]? = some y) && (visB sc s && (visB sc y && (nm s && (nm y && initC N sc (j + 1) fs r))))))
  | _, _, _ => false
def tInit (K : PySem.W.Frag) : Nat → List Str → TS
  | _, [] => tNext
  | j, f :: fs => tSeq (tOst K f (tVar 0) (tVar j)) (tInit K (j + 1) fs)
theorem pss_init {X : Cx} {sc : Scope} (hs : X.env.scope = sc) : ∀ {fs : List Str} {j : Nat} {ss : List Stmt}, initC X.N sc j fs ss = true → PSs X ss (tInit X.K j fs)
  | [], _, [], _ => pss_nil
  | [], _, _ :: _, h => by cases h
  | f :: fs, _, [], h => by cases h
  | f :: fs, j, st :: r, h => by
    unfold initC at h
    split at h
    · contradiction
    · rename_i f2 fs2 s p1 f' p2 y p3 pos r2 e1 e2
      cases e1
      cases e2
      rw [Bool.and_eq_true, Bool.and_eq_true, Bool.and_eq_true, Bool.and_eq_true, Bool.and_eq_true, Bool.and_eq_true, Bool.and_eq_true, decide_eq_true_eq, decide_eq_true_eq, decide_eq_true_eq] at h
      obtain ⟨h1, h2, h3, h4, h5, h6, h7, h8⟩ := h
      subst h1
      exact pss_cons (ps_ost (pe_var h2 (by rw [hs]; exact visB_ok h4) (nm_ok h6).1 (nm_ok h6).2) (pe_var h3 (by rw [hs]; exact visB_ok h5) (nm_ok h7).1 (nm_ok h7).2)) (pss_init hs h8)
    · cases h
theorem init_more {K : PySem.W.Frag} {C a dx : Addr} (T : OexC K C) : ∀ (fs : List Str) (us : List V) (done : List (Str × V)) (j : Nat) (σ : L2.St) (H : Hp) (D : Ends), (∀ f ∈ fs, PySem.W.findIn K (.ref C) f = some none) → us.length = fs.length → (∀ i u, us[i]? = some u → σ[j + i]? = some (some u)) →
    σ[0]? = some (some (.ref a)) → dx ≠ a → H a = some (exo a C (some dx)) → H dx = some (exd dx done) → done.length + fs.length ≤ 900 →
    (∀ H', H' a = some (exo a C (some dx)) → H' dx = some (exd dx ((fs.zip us).reverse ++ done)) → (∀ b, b ≠ a → b ≠ dx → H' b = H b) → D.nx σ H') → tInit K j fs D σ H
  | [], us, done, j, σ, H, D, _, hl, hσ, h0, hne, ha, hd, hz, q => q H ha (by simpa using hd) fun _ _ _ => rfl
  | f :: fs, [], done, j, σ, H, D, _, hl, hσ, h0, hne, ha, hd, hz, q => by cases hl
  | f :: fs, u :: us, done, j, σ, H, D, hno, hl, hσ, h0, hne, ha, hd, hz, q => by
    refine ⟨u, by simpa using hσ 0 u rfl, .ref a, h0, a, C, rfl, T, hno f List.mem_cons_self, .inr ⟨dx, done, ha, hd, by simp at hz; omega, ?_⟩⟩
    refine init_more T fs us ((f, u) :: done) (j + 1) σ _ D (fun g hg => hno g (List.mem_cons_of_mem _ hg)) (by simpa using hl) (fun i v e => ?_) h0 hne (by rw [upd_ne (Ne.symm hne)]; exact ha) upd_same (by simp at hz ⊢; omega) fun H' h1 h2 h3 => q H' h1 ?_ fun b hb hb2 => ?_
    · have := hσ (i + 1) v (by simpa using e)
      rw [show j + 1 + i = j + (i + 1) by omega]
      exact this
    · rw [h2]
      simp
    · rw [h3 b hb hb2, upd_ne hb2]
theorem init_read {K : PySem.W.Frag} {C a : Addr} (T : OexC K C) (f : Str) (fs : List Str) (u : V) (us : List V) (σ : L2.St) (H : Hp) (D : Ends) (hno : ∀ g ∈ f :: fs, PySem.W.findIn K (.ref C) g = some none) (hl : us.length = fs.length) (hσ : ∀ i v, (u :: us)[i]? = some v → σ[1 + i]? = some (some v))
    (h0 : σ[0]? = some (some (.ref a))) (ha : H a = some (exo a C none)) (hz : fs.length ≤ 800)
    (q : ∀ dx H', H dx = none → dx ≠ a → H' a = some (exo a C (some dx)) → H' dx = some (exd dx ((f :: fs).zip (u :: us)).reverse) → (∀ b, b ≠ a → b ≠ dx → H' b = H b) → D.nx σ H') : tInit K 1 (f :: fs) D σ H := by
  refine ⟨u, by simpa using hσ 0 u rfl, .ref a, h0, a, C, rfl, T, hno f List.mem_cons_self, .inl ⟨ha, fun dx hn hne => ?_⟩⟩
  refine init_more T fs us [(f, u)] 2 σ _ D (fun g hg => hno g (List.mem_cons_of_mem _ hg)) hl (fun i v e => ?_) h0 hne upd_same (by rw [upd_ne hne]; exact upd_same) (by simp; omega) fun H' h1 h2 h3 => q dx H' hn hne h1 ?_ fun b hb hb2 => ?_
  · have := hσ (i + 1) v (by simpa using e)
    rw [show 2 + i = 1 + (i + 1) by omega]
    exact this
  · rw [h2]
    simp
  · rw [h3 b hb hb2, upd_ne hb, upd_ne hb2]
/-- what the text says of an exception class that has an __init__ of its own -/
structure XIni (K : PySem.W.Frag) (C : Addr) (flds : List Str) : Prop where
  T : OexC K C
  X : XfC K C
  no : ∀ f ∈ flds, PySem.W.findIn K (.ref C) f = some none
  ne : flds ≠ []
  few : flds.length ≤ 20
  it : ∃ (f : Addr) (qual : Str) (st : Stmt) (fd : FuncData) (N : List Str), PySem.W.findIn K (.ref C) "__init__" = some (some (.ref f)) ∧ PySem.W.typeIn K (.ref f) = some (.type "function") ∧ Fun K "__init__" qual st f fd ∧ FnScope N N (defScope st) ∧ N.length = flds.length + 1 ∧
    initC N (defScope st) 1 flds (defBody st) = true ∧ Binds K fd N []
theorem start_get {N : List Str} {vs : List V} {i : Nat} {v : V} (h : vs[i]? = some v) : (L2.start N vs)[i]? = some (some v) := by
  unfold L2.start
  have hl : i < vs.length := (List.getElem?_eq_some_iff.mp h).1
  rw [List.getElem?_append_left (by rw [List.length_map]; exact hl), List.getElem?_map, h]
  rfl
theorem XIni.ok {P : Program} {w : World} {K : PySem.W.Frag} {mg : Str → Option Value} {base : Heap} {C : Addr} {flds : List Str} (I : XIni K C flds) :
    ∃ (f : Addr) (fd : FuncData) (N : List Str), PySem.W.findIn K (.ref C) "__init__" = some (some (.ref f)) ∧ PySem.W.typeIn K (.ref f) = some (.type "function") ∧ FnOk P w K mg base (L2.CX P w) 1 f fd N (spI C flds) ∧ Binds K fd N [] := by
  obtain ⟨f, qual, st, fd, N, h1, h2, F, S, hl, hc, hb⟩ := I.it
  refine ⟨f, fd, N, h1, h2, F.okX S (fun vs H Q E h => ?_) (fun cdv A outer s H vs Q E hr h => ?_), hb⟩
  · obtain ⟨a, ws, rfl, h2, _⟩ := h
    rw [List.length_cons, h2, hl]
  · obtain ⟨a, ws, rfl, hw, ha, hq⟩ := h
    refine ⟨_, pss_init (X := cxOf (L2.CX P w) P w K mg base N qual (defScope st) f cdv A outer s H E) (sc := defScope st) rfl hc, ?_⟩
    have few := I.few
    have no := I.no
    cases flds with
    | nil => exact absurd rfl I.ne
    | cons g gs =>
      cases ws with
      | nil => cases hw
      | cons u us =>
        refine init_read I.T g gs u us _ H _ no (by simpa using hw) (fun i v e => start_get ?_) (start_get rfl) ha (by simp at few; omega) fun dx H' a1 a2 a3 a4 a5 => hq dx H' a1 a2 a3 a4 a5
        rw [show 1 + i = i + 1 by omega]
        exact e
end LX

set_option Elab.async false
set_option linter.all false
set_option maxRecDepth 100000
set_option maxHeartbeats 2000000
/-! LxTry: raise, try, the handled exception. -/
namespace LX
open PySem L2 PyProof.Rows
theorem zip_lookup {K : PySem.W.Frag} {H : Hp} {β : Bt} {N : Nat} {f : Str} {d : D} : ∀ {fs : List Str} {ds : List D} {vs : List V}, fs.Nodup → fs.length = ds.length → Reps K H β N ds vs → (zipF fs ds).lookup f = some d → ∃ v, (fs.zip vs).reverse.lookup f = some v ∧ Rep K H β N d v := by
  have aux : ∀ {fs : List Str} {ds : List D} {vs : List V} {acc : List (Str × V)}, fs.Nodup → fs.length = ds.length → Reps K H β N ds vs → (zipF fs ds).lookup f = some d → ∃ v, ((fs.zip vs).reverse ++ acc).lookup f = some v ∧ Rep K H β N d v := by
    intro fs
    induction fs with
    | nil =>
      intro ds vs acc _ _ _ h
      cases ds <;> cases h
    | cons g gs ih =>
      intro ds vs acc hn hl r h
      cases ds with
      | nil => cases hl
      | cons e es =>
        obtain ⟨v, w, rfl, r1, r2⟩ := r.consI
        have hz : ((g :: gs).zip (v :: w)).reverse ++ acc = (gs.zip w).reverse ++ ((g, v) :: acc) := by simp
        rw [hz]
        have hg := List.nodup_cons.mp hn
        have h' : (match f == g with
          | true => some e
          | false => (zipF gs es).lookup f) = some d := h
        by_cases q : f = g
        · subst q
          rw [show (f == f) = true by simp] at h'
          obtain rfl := Option.some.inj h'
          refine ⟨v, ?_, r1⟩
          have nz : ∀ {l : List (Str × V)}, f ∉ l.map (·.1) → (l ++ (f, v) :: acc).lookup f = some v := by
            intro l
            induction l with
            | nil => intro _; simp [List.lookup]
            | cons p l ih2 =>
              intro hp
              rw [List.map_cons, List.mem_cons, not_or] at hp
              obtain ⟨x, y⟩ := p
              have e1 : (f == x) = false := by simpa using hp.1
              show (match f == x with
                | true => some y
                | false => (l ++ (f, v) :: acc).lookup f) = some v
              rw [e1]
              exact ih2 hp.2
          refine nz fun hm => hg.1 ?_
          rw [List.map_reverse, List.mem_reverse, List.mem_map] at hm
          obtain ⟨p, hp, rfl⟩ := hm
          obtain ⟨x, y⟩ := p
          exact (List.of_mem_zip hp).1
        · rw [show (f == g) = false by simpa using q] at h'
          exact ih hg.2 (by simpa using hl) r2 h'
  intro fs ds vs a b c d
  obtain ⟨v, h1, h2⟩ := aux (acc := []) a b c d
  rw [List.append_nil] at h1
  exact ⟨v, h1, h2⟩
section
variable {X : Cx} {W : WX} {xa : Nat → Addr} {η : Option (Nat × Flds)} {e a b o i e3 : Expr} {es : List Expr} {pos p p' p2 : Pos} {st : Stmt} {sts ss1 ss2 : List Stmt} {fa fb fc : Env → MH → Res D} {fs : Env → MH → Res (List D)} {x : Str} {k : Nat}
theorem upd_back {H : Hp} {a : Addr} {o : HO} (h : H a = none) : del (upd H a o) a = H := by
  funext b
  unfold del
  by_cases q : b = a
  · rw [if_pos q, q, h]
  · rw [if_neg q, upd_ne q]
theorem s_raise {P : Pg} {xc : Xc} (hc : X.calm = true) (tk : Takes X W) (hx : P.xcs[k]? = some xc) (I : XIni X.K (xa k) xc.flds) (nd : xc.flds.Nodup) (hr : Room 2 X.A) (hg : Gl X x) (hm : X.mg x = some (.ref (xa k))) (hdb : (x == ("__debug__" : Str)) = false) (ha : PA X (e :: es) (tDs X.K W xa none none fs)) (hst : (e :: es).all noStar = true) :
    PS X (.Raise (some (.Call (.Name x p) (e :: es) [] p2)) none pos) (tS X.K W xa none none fun ρ M => (fs ρ M).sbind ρ fun ds M => match P.xcs[k]? with
      | some x => if x.flds.length = ds.length then .exn k (zipF x.flds ds) ρ M else .stuck
      | none => .stuck) := by
  rw [List.all_cons, Bool.and_eq_true] at hst
  obtain ⟨f, fd, N, h1, h2, F, hb⟩ := I.ok (P := X.prog) (w := X.w) (mg := X.mg) (base := X.base)
  refine PS.imp (L2.ps_raise hc tk (pmk_oex I.T h1 h2 F hr hb .nil passL hg hm ha hdb (star1 (noStar_ne hst.1)) (star_any hst.2))) fun D σ H q => tR.sseq q fun β ρ M ds vs H1 sr r1 h1 => ?_
  rw [hx] at h1
  dsimp only at h1
  by_cases hl : xc.flds.length = ds.length
  · rw [if_pos hl] at h1
    have hv : vs.length = ds.length := r1.length
    have few := I.few
    refine ⟨by omega, fun a ha => ⟨a, vs, by simp, by omega, upd_same, fun dx H' a1 a2 a3 a4 a5 => ⟨rfl, dx, _, a3, a4, ?_, ?_⟩⟩⟩
    · rw [upd_ne a2] at a1
      exact a1
    · have hn : H1 dx = none := by rw [upd_ne a2] at a1; exact a1
      have eH : upd (del H' a) dx (.xd (xc.flds.zip vs).reverse) = upd H1 dx (.xd (xc.flds.zip vs).reverse) := by
        funext b
        by_cases z : b = dx
        · rw [z, upd_same, upd_same]
        · rw [upd_ne z, upd_ne z]
          by_cases y : b = a
          · rw [y, del_same, ha]
          · rw [del_ne y, a5 b y z, upd_ne y]
      rw [eH]
      have ex : Ext β M.length H1 β M.length (upd H1 dx (.xd (xc.flds.zip vs).reverse)) := Ext.fresh hn
      have hp := sr.heap.fresh (o := .xd (xc.flds.zip vs).reverse) hn
      exact h1 β _ σ dx _ ex (sr.mono ex hp) upd_same fun g d q => zip_lookup nd hl (Reps.mono sr.heap ex r1) q
  · rw [if_neg hl] at h1
    exact h1.elim
/-! ### the handled exception -/
/-- the suite's context -/
structure HotX (X : Cx) (cls : Addr) (h : Hx) : Prop where
  is : ∃ (Y : Cx) (oe : Obj) (pn : List (Addr × Obj)), X = Y.suite h.a ((h.a, oe) :: pn) ∧ Zc (.ref cls) (some h.dx) oe ∧ ∃ vs, oe.data = .fields vs
variable {h : Hx} {xk : Nat} {fl : Flds}
theorem pe_hot {i : Nat} {x : Str} (hi : h.i = some i) (hN : X.N[i]? = some x) (hv : Vis X.env.scope x) (hd : nm x = true) : PE X (.Name x p) (fun σ H Q => (∃ β ρ M, SR X.K (some h) (some (xk, fl)) H β M ρ σ) ∧ Q (.ref h.a) H) :=
  PE.imp (pe_var hN hv (nm_ok hd).1 (nm_ok hd).2) fun σ H Q ⟨⟨β, ρ, M, sr⟩, q⟩ => ⟨_, sr.hot.1 i hi, q⟩
theorem d_xat {i : Nat} {f : Str} (HX : HotX X (xa xk) h) (T : XfC X.K (xa xk)) (hno : PySem.W.findIn X.K (.ref (xa xk)) f = some none) (hi : h.i = some i) (hN : X.N[i]? = some x) (hv : Vis X.env.scope x) (hd : nm x = true) :
    PE X (.Attribute (.Name x p) f pos) (tD X.K W xa (some h) (some (xk, fl)) fun ρ M => ofO (fl.lookup f) M) := by
  obtain ⟨Y, oe, pn, rfl, hz, hf⟩ := HX.is
  refine PE.imp (pe_xf T hno hz hf (pe_hot (xk := xk) (fl := fl) hi hN hv hd) rfl) fun σ H Q ⟨β, ρ, M, sr, q⟩ => ⟨⟨β, ρ, M, sr⟩, rfl, rfl, ?_⟩
  dsimp only at q
  cases e1 : fl.lookup f with
  | none => rw [e1] at q; exact q.elim
  | some d =>
    rw [e1] at q
    obtain ⟨_, fvs, h2, h3⟩ := sr.hot
    obtain ⟨v, h4, h5⟩ := h3 f d e1
    exact ⟨h.dx, fvs, v, rfl, h2, h4, q.okR sr.heap h5⟩
/-- what a class says, so that isinstance of its instances can be told -/
structure XisC (K : PySem.W.Frag) (D : Addr) : Prop where
  cl : (PySem.W.clsIn K D).isSome = true
  ga : PySem.W.findIn K (.ref D) "__getattribute__" = some (some (.builtin "BaseException.__getattribute__"))
  gt : PySem.W.findIn K (.ref D) "__getattr__" = some none
  sb : PySem.W.subIn K (.ref D) (.type "BaseException") = some true
  cc : PySem.W.findIn K (.ref D) "__class__" = some (some (.builtin "object.__class__"))
  sp : PySem.W.specialIn K (.builtin "object.__class__") "__get__" = some (some (.builtin "getset_descriptor.__get__"))
  tk : PySem.W.takesIn K (.builtin "object.__class__") = some true
  mr : PySem.W.mroIn K D (.type "object") = some true
/-- isinstance(e, C), isinstance(e, (C, ..)), e the handled exception -/
def rIsX (K : PySem.W.Frag) (D a : Addr) : List V → Hp → VK → Prop := fun xs H Q => ∃ (js : List Addr) (c : V) (b : Bool), xs = [.ref a, c] ∧ PySem.W.kitAny K (.ref D) (js.map Value.ref) = some b ∧ (c = V.ref (js.headD 0) ∧ js.length = 1 ∨ ∃ q, c = .ref q ∧ H q = some (.tup (js.map V.ref))) ∧ Q (.bl b) H
theorem call_isX {Y : Cx} {a D dx : Addr} {oe : Obj} {pn : List (Addr × Obj)} (C : XisC Y.K D) (hz : Zc (.ref D) (some dx) oe) (hf : ∃ vs, oe.data = .fields vs) :
    ∀ (pins : List (Addr × Obj)) (s : Shared) (σ : L2.St) (H : Hp) (xs : List V) (us : List Value) (Q : VK), Inv (Y.suite a ((a, oe) :: pn)) pins σ H s → Vals xs us → (rIsX Y.K D a xs H Q ∧ ∃ fs, H dx = some (.xd fs)) →
      wpAny (model Y.prog Y.w) (Y.suite a ((a, oe) :: pn)).A (call (.builtin "isinstance") us) (EP (Y.suite a ((a, oe) :: pn)) pins σ Q) (fun _ _ => False) s := by
  intro pins s σ H xs us Q I r h
  obtain ⟨⟨js, c, b, rfl, e, hc, q⟩, fs, hd⟩ := h
  obtain ⟨u1, u2, rfl, r1, r2⟩ := vals2 r
  cases (show u1 = Value.ref a from r1)
  obtain ⟨hget, _⟩ := I.pin (a, oe) (List.mem_append.mpr (.inl List.mem_cons_self))
  obtain ⟨vs, hv⟩ := hf
  have hx : ObjOk Y.prog Y.w H s.heap dx (.xd fs) := I.hok dx _ hd
  obtain ⟨mA, hns, hr⟩ := hx
  obtain ⟨od, ho, hl⟩ := lookIn_ns hns
  have J : PySem.W.InstAt s.heap a oe D (some od) := ⟨hget, hz.1, by unfold PySem.W.notCls; rw [hv] <;> rfl, by rw [hz.2]; exact ho⟩
  have Z := PySem.W.kitx_exc (x := a) (ox := oe) (od := some od) C.cl C.ga C.gt C.sb C.cc C.sp C.tk C.mr
  rcases hc with ⟨ec, h1⟩ | ⟨tp, ec, hT⟩
  · subst ec
    cases (show u2 = Value.ref (js.headD 0) from r2)
    match js, h1 with
    | [j], _ =>
      have e2 : PySem.W.kitOne Y.K (.ref D) (.ref j) = some b := by
        have e3 : PySem.W.kitAny Y.K (.ref D) [Value.ref j] = some b := e
        unfold PySem.W.kitAny at e3
        cases q : PySem.W.kitOne Y.K (.ref D) (.ref j) with
        | none => rw [q] at e3; cases e3
        | some v =>
          rw [q] at e3
          cases v with
          | true => exact e3
          | false => exact e3
      exact PySem.W.kia_one Z I.kIn J e2 (fun z => nomatch z) fun tk => ⟨.bl b, H, I.kept (t' := tk) fun _ _ z => z, rfl, q⟩
  · subst ec
    cases (show u2 = Value.ref tp from r2)
    obtain ⟨_, its, rv, o, h1, h2, n, h3⟩ := (show ObjOk Y.prog Y.w H s.heap tp (.tup (js.map V.ref)) from I.hok tp _ hT)
    have e3 : its = js.map Value.ref := by
      clear h1 h3 e hT q r r2
      have key : ∀ (l : List Addr) (its : List Value), Vals (l.map V.ref) its → its = l.map Value.ref := by
        intro l
        induction l with
        | nil =>
          intro its rv
          cases rv
          rfl
        | cons j l ih =>
          intro its rv
          cases rv with
          | cons ra rb =>
            rw [List.map_cons, ih _ rb]
            rw [show _ = Value.ref j from ra]
      exact key js its rv
    subst e3
    obtain ⟨oc, od2, dt, sl⟩ := o
    simp only at h2 h3
    subst h2 h3
    exact PySem.W.kia_tup Z I.kIn J h1 e (fun z => nomatch z) fun tk => ⟨.bl b, H, I.tok tk, rfl, q⟩
/-- what the text says of all its exception classes -/
structure XTab (K : PySem.W.Frag) (xa : Nat → Addr) (P : Pg) : Prop where
  le : P.live ≤ P.xcs.length
  exm : ∀ k x j, P.xcs[k]? = some x → k < P.live → j < P.xcs.length → PySem.W.exmOne K (.ref (xa k)) (.ref (xa j)) = some (decide (j ∈ x.up))
  kit : ∀ k x j, P.xcs[k]? = some x → k < P.live → j < P.xcs.length → PySem.W.kitOne K (.ref (xa k)) (.ref (xa j)) = some (decide (j ∈ x.up))
  isc : ∀ k, k < P.live → XisC K (xa k)
  xf : ∀ k, k < P.live → XfC K (xa k)
theorem kit_any {K : PySem.W.Frag} {P : Pg} {xc : Xc} (T : XTab K xa P) (hx : P.xcs[xk]? = some xc) (hk : xk < P.live) : ∀ {cs : List Nat}, (∀ j ∈ cs, j < P.xcs.length) → PySem.W.kitAny K (.ref (xa xk)) ((cs.map xa).map Value.ref) = some (cs.any fun j => decide (j ∈ xc.up))
  | [], _ => rfl
  | j :: cs, h => by
    refine kitAny_cons (T.kit xk xc j hx hk (h j List.mem_cons_self)) (fun e => ?_) fun e => ?_
    · rw [List.any_cons, e, Bool.false_or]
      exact kit_any T hx hk fun j hj => h j (List.mem_cons_of_mem _ hj)
    · rw [List.any_cons, e, Bool.true_or]
theorem d_xis1 {P : Pg} {i j : Nat} {y : Str} (T : XTab X.K xa P) (HX : HotX X (xa xk) h) (hxk : xk < P.live) (hi : h.i = some i) (hN : X.N[i]? = some x) (hv : Vis X.env.scope x) (hd : nm x = true) (hj : j < P.xcs.length) (hg : Gl X "isinstance") (hm : X.mg "isinstance" = none) (hgy : Gl X y) (hmy : X.mg y = some (.ref (xa j))) (hdy : nm y = true) :
    PE X (.Call (.Name "isinstance" p) [.Name x p', .Name y p2] [] pos) (tD X.K W xa (some h) (some (xk, fl)) fun ρ M => match P.xcs[xk]? with
      | some z => .ok (.bl ([j].any fun j => decide (j ∈ z.up))) M
      | none => .stuck) := by
  obtain ⟨Y, oe, pn, rfl, hz, hf⟩ := HX.is
  have hc : CallR (Y.suite h.a ((h.a, oe) :: pn)) (.builtin "isinstance") (fun xs H Q => rIsX Y.K (xa xk) h.a xs H Q ∧ ∃ fs, H h.dx = some (.xd fs)) := call_isX (T.isc xk hxk) hz hf
  refine PE.imp (pe_callB hc hg hm PyProof.Rows.boot_isinstance (pa_cons (pe_hot (xk := xk) (fl := fl) hi hN hv hd) (pa_cons (pe_glob (v := .ref (xa j)) hgy hmy rfl (nm_ok hdy).1) pa_nil rfl) rfl) (by decide +kernel) (by decide +kernel) rfl rfl) fun σ H Q ⟨β, ρ, M, sr, q⟩ => ⟨⟨β, ρ, M, sr⟩, ?_⟩
  obtain ⟨_, fvs, h2, h3⟩ := sr.hot
  rw [List.getElem?_eq_getElem (Nat.lt_of_lt_of_le hxk T.le)] at q
  exact ⟨⟨[xa j], .ref (xa j), _, rfl, kit_any T (List.getElem?_eq_getElem (Nat.lt_of_lt_of_le hxk T.le)) hxk (cs := [j]) (fun j' hj' => by rw [List.mem_singleton.mp hj']; exact hj), .inl ⟨rfl, rfl⟩, q.okR sr.heap (show RD Y.K H β M.length (D.bl _) (V.bl _) from rfl)⟩, fvs, h2⟩
theorem d_clsx : ∀ {js : List Nat} {ns : List Expr}, ns.length = js.length → (∀ (i : Nat) (j : Nat) (n : Expr), js[i]? = some j → ns[i]? = some n → ∃ y p, n = .Name y p ∧ Gl X y ∧ X.mg y = some (.ref (xa j)) ∧ nm y = true) → PA X ns (fun σ H Q => Q ((js.map xa).map V.ref) H)
  | [], [], _, _ => pa_nil
  | j :: js, n :: ns, hl, hn => by
    obtain ⟨y, p, rfl, h1, h2, h3⟩ := hn 0 j n rfl rfl
    exact pa_cons (pe_glob (v := .ref (xa j)) h1 h2 rfl (nm_ok h3).1) (d_clsx (by simpa using hl) fun i k' n' a b => hn (i + 1) k' n' (by simpa using a) (by simpa using b)) rfl
  | [], _ :: _, hl, _ => by cases hl
  | _ :: _, [], hl, _ => by cases hl
theorem d_xisN {P : Pg} {i k0 : Nat} {cs : List Nat} {ns : List Expr} {tp : Pos} (T : XTab X.K xa P) (HX : HotX X (xa xk) h) (hxk : xk < P.live) (hi : h.i = some i) (hN : X.N[i]? = some x) (hv : Vis X.env.scope x) (hd : nm x = true) (hj : ∀ j ∈ cs, j < P.xcs.length) (hg : Gl X "isinstance") (hm : X.mg "isinstance" = none)
    (hl : ns.length = cs.length) (hn : ∀ (i : Nat) (j : Nat) (n : Expr), cs[i]? = some j → ns[i]? = some n → ∃ y p, n = .Name y p ∧ Gl X y ∧ X.mg y = some (.ref (xa j)) ∧ nm y = true) (hz1 : cs.length < 1000) :
    PE X (.Call (.Name "isinstance" p) [.Name x p', .Tuple ns k0 tp] [] pos) (tD X.K W xa (some h) (some (xk, fl)) fun ρ M => match P.xcs[xk]? with
      | some z => .ok (.bl (cs.any fun j => decide (j ∈ z.up))) M
      | none => .stuck) := by
  have ha := d_clsx (X := X) (xa := xa) hl hn
  obtain ⟨Y, oe, pn, rfl, hz, hf⟩ := HX.is
  have hc : CallR (Y.suite h.a ((h.a, oe) :: pn)) (.builtin "isinstance") (fun xs H Q => rIsX Y.K (xa xk) h.a xs H Q ∧ ∃ fs, H h.dx = some (.xd fs)) := call_isX (T.isc xk hxk) hz hf
  refine PE.imp (pe_callB hc hg hm PyProof.Rows.boot_isinstance (pa_cons (pe_hot (xk := xk) (fl := fl) hi hN hv hd) (pa_cons (pe_tup ha) pa_nil rfl) rfl) (by decide +kernel) (by decide +kernel) rfl rfl) fun σ H Q ⟨β, ρ, M, sr, q⟩ => ⟨⟨β, ρ, M, sr⟩, ?_⟩
  obtain ⟨_, fvs, h2, h3⟩ := sr.hot
  rw [List.getElem?_eq_getElem (Nat.lt_of_lt_of_le hxk T.le)] at q
  refine ⟨by rw [List.length_map, List.length_map, lim_eq]; exact Nat.le_trans (Nat.le_of_lt hz1) (by decide), fun tq htq => ?_⟩
  refine ⟨⟨cs.map xa, .ref tq, _, rfl, kit_any T (List.getElem?_eq_getElem (Nat.lt_of_lt_of_le hxk T.le)) hxk hj, .inr ⟨tq, rfl, upd_same⟩, ?_⟩, fvs, ?_⟩
  · have e1 : Ext β M.length H β M.length (upd H tq (.tup ((cs.map xa).map V.ref))) := Ext.fresh htq
    exact q β _ (.bl _) e1 (sr.heap.fresh htq) rfl
  · rw [upd_ne (ne_of_none h2 htq)]
    exact h2
/-! ### try -/
theorem EnvR.gone {K : PySem.W.Frag} {H : Hp} {β : Bt} {N : Nat} {ρ : Env} {σ : L2.St} (r : EnvR K H β N ρ σ) (i : Nat) (u : Option V) : EnvR K H β N (ρ.set i none) (σ.set i u) := by
  refine ⟨by rw [List.length_set, List.length_set]; exact r.len, fun j d q => ?_⟩
  by_cases hij : i = j
  · subst hij
    by_cases hl : i < ρ.length
    · rw [List.getElem?_set_self hl] at q
      cases q
    · rw [List.getElem?_eq_none (by rw [List.length_set]; omega)] at q
      cases q
  · rw [List.getElem?_set_ne hij] at q
    obtain ⟨v, q1, q2⟩ := r.val j d q
    exact ⟨v, by rw [List.getElem?_set_ne hij]; exact q1, q2⟩
/-- the suite's end -/
theorem PostS.hot {K : PySem.W.Frag} {hx : Hx} {xk : Nat} {fl : Flds} {H : Hp} {β : Bt} {N : Nat} {D : Ends} {r : SRes} {W' : WX} {i : Nat} (q : PostS K W xa none none H β N (r.map (gone (some i))) D) :
    PostS K W' xa (some hx) (some (xk, fl)) H β N r { nx := fun σ' H' => D.nx (σ'.set i none) H', rt := D.rt, bk := fun σ' H' => D.bk (σ'.set i none) H', ct := fun σ' H' => D.ct (σ'.set i none) H' } := by
  cases r with
  | nx ρ M => exact fun β' H' σ' e s => q β' H' _ e ⟨s.env.gone i none, s.heap, trivial⟩
  | bk ρ M => exact fun β' H' σ' e s => q β' H' _ e ⟨s.env.gone i none, s.heap, trivial⟩
  | ct ρ M => exact fun β' H' σ' e s => q β' H' _ e ⟨s.env.gone i none, s.heap, trivial⟩
  | rt d M => exact q
  | exn c fs ρ M => exact q.elim
  | stuck => exact q.elim
theorem PostS.hot0 {K : PySem.W.Frag} {hx : Hx} {xk : Nat} {fl : Flds} {H : Hp} {β : Bt} {N : Nat} {D : Ends} {r : SRes} {W' : WX} (q : PostS K W xa none none H β N (r.map (gone none)) D) : PostS K W' xa (some hx) (some (xk, fl)) H β N r D := by
  cases r with
  | nx ρ M => exact fun β' H' σ' e s => q β' H' _ e ⟨s.env, s.heap, trivial⟩
  | bk ρ M => exact fun β' H' σ' e s => q β' H' _ e ⟨s.env, s.heap, trivial⟩
  | ct ρ M => exact fun β' H' σ' e s => q β' H' _ e ⟨s.env, s.heap, trivial⟩
  | rt d M => exact q
  | exn c fs ρ M => exact q.elim
  | stuck => exact q.elim
/-- the suite's reading -/
def tSu (K : PySem.W.Frag) (xa : Nat → Addr) (P : Pg) (n : Option Nat) (g : Nat → Flds → Env → MH → SRes) : Addr → Value → Option Addr → TS := fun a cls d D σ H =>
  ∃ (k : Nat) (fl : Flds) (dx : Addr), k < P.live ∧ cls = .ref (xa k) ∧ d = some dx ∧ tS K WF xa (some ⟨n, a, dx⟩) (some (k, fl)) (g k fl) D σ H
theorem pss_su {P : Pg} {n : Option Nat} {g : Nat → Flds → Env → MH → SRes} {suite : List Stmt}
    (hsu : ∀ (k : Nat) (fl : Flds) (h : Hx) (oe : Obj) (pn : List (Addr × Obj)), k < P.live → h.i = n → HotX (X.suite h.a ((h.a, oe) :: pn)) (xa k) h → PSs (X.suite h.a ((h.a, oe) :: pn)) suite (tS X.K WF xa (some h) (some (k, fl)) (g k fl))) (a : Addr) (oe : Obj) (cls : Value) (d : Option Addr) (pn : List (Addr × Obj)) (hz : Zc cls d oe) (hf : ∃ vs, oe.data = .fields vs) :
    PSs (X.suite a ((a, oe) :: pn)) suite (tSu X.K xa P n g a cls d) := by
  refine ⟨fun pins s σ H D I ⟨k, fl, dx, hk, e1, e2, q⟩ => ?_⟩
  subst e1 e2
  exact (hsu k fl ⟨n, a, dx⟩ oe pn hk rfl ⟨X, oe, pn, rfl, hz, hf⟩).run pins s σ H D I q
theorem s_try1 {P : Pg} {body : List Stmt} {b₀ : Stmt} {suite : List Stmt} {np : Pos} {y n : Str} {i j : Nat} {gb : Env → MH → SRes} {g : Nat → Flds → Env → MH → SRes} (T : XTab X.K xa P) (hs : X.stack = X.env :: X.outer) (hf : X.env.frame = some X.env.locals) (hN : X.N.Nodup) (hi : X.N[i]? = some n) (hln : X.env.kindOf n = some .local) (hgy : Gl X y) (hmy : X.mg y = some (.ref (xa j))) (hdy : nm y = true) (hj : j < P.xcs.length) (tk : Takes X W)
    (hb : ∀ (W : WX) (pn : List (Addr × Obj)) (xe : Value → Shared → Prop), Takes (X.tr pn xe) W → PassesOwn (model X.prog X.w) X.A X.env xe → PSs (X.tr pn xe) body (tS X.K W xa none none gb))
    (hsu : ∀ (k : Nat) (fl : Flds) (h : Hx) (oe : Obj) (pn : List (Addr × Obj)), k < P.live → h.i = some i → HotX (X.suite h.a ((h.a, oe) :: pn)) (xa k) h → PSs (X.suite h.a ((h.a, oe) :: pn)) (b₀ :: suite) (tS X.K WF xa (some h) (some (k, fl)) (g k fl))) :
    PS X (.Try body [.ExceptHandler (some (.Name y np)) (some n) (b₀ :: suite) p'] [] [] pos) (tS X.K W xa none none fun ρ M => match gb ρ M with
      | .exn k fs ρ M => if k < P.live then match P.xcs[k]? with
        | some x => if j ∈ x.up then (if slotIn (some i) ρ then (g k fs (gone (some i) ρ) M).map (gone (some i)) else .stuck) else .exn k fs ρ M
        | none => .stuck
        else .stuck
      | r => r) := by
  refine PS.imp (L2.ps_try_as (i := i) hs hf hN hi hln ⟨hgy, (nm_ok hdy).1, .inl hmy⟩ tk hb (pss_su (P := P) (n := some i) hsu)) fun D σ H ⟨β, ρ, M, sr, q⟩ => ⟨β, ρ, M, sr, ?_⟩
  dsimp only at q
  cases e : gb ρ M with
  | nx ρ' M' => rw [e] at q; exact q
  | bk ρ' M' => rw [e] at q; exact q
  | ct ρ' M' => rw [e] at q; exact q
  | rt d M' => rw [e] at q; exact q
  | stuck => rw [e] at q; exact q
  | exn k fs ρ' M' =>
    rw [e] at q
    dsimp only at q
    by_cases hk : k < P.live
    case neg => rw [if_neg hk] at q; exact q.elim
    rw [if_pos hk] at q
    cases ex : P.xcs[k]? with
    | none => rw [ex] at q; exact q.elim
    | some xc =>
      rw [ex] at q
      intro β' H' σ' dx fvs e1 s1 hdx hfl
      refine ⟨decide (j ∈ xc.up), T.exm k xc j ex hk hj, fun hy a ha => ?_, fun hn => ?_⟩
      · have hy := of_decide_eq_true hy
        dsimp only at q
        rw [if_pos hy] at q
        by_cases hsl : slotIn (some i) ρ' = true
        case neg => rw [if_neg hsl] at q; exact q.elim
        rw [if_pos hsl] at q
        refine ⟨k, fs, dx, hk, rfl, rfl, β', ρ'.set i none, M', ⟨s1.env.gone i _, s1.heap, ?_⟩, PostS.hot (PostS.ext q e1)⟩
        refine ⟨fun i' hi' => ?_, fvs, hdx, hfl⟩
        cases hi'
        exact List.getElem?_set_self (by rw [s1.env.len]; exact of_decide_eq_true hsl)
      · have hn := of_decide_eq_false hn
        dsimp only at q
        rw [if_neg hn] at q
        exact q β' H' σ' dx fvs e1 s1 hdx hfl
theorem s_tryN_read {P : Pg} {gb : Env → MH → SRes} {hs : List (Nat × Option Nat × List S)} {G : List S → Nat → Flds → Env → MH → SRes} (T : XTab X.K xa P) (hn : ∀ p ∈ hs, p.2.1 = none ∧ p.1 < P.xcs.length) {D : Ends} {k : Nat} {xc : Xc} (ex : P.xcs[k]? = some xc) (hk : k < P.live) {fs : Flds} {ρ : Env} {M : MH} {H : Hp} {β : Bt} {N0 : Nat}
    (q : PostS X.K W xa none none H β N0 (match clause P k hs with
      | some (n, b) => if slotIn n ρ then (G b k fs (gone n ρ) M).map (gone n) else .stuck
      | none => .exn k fs ρ M) D) :
    ∀ β' H' σ' dx fvs, Ext β N0 H β' M.length H' → SR X.K none none H' β' M ρ σ' → H' dx = some (.xd fvs) → (∀ f d, fs.lookup f = some d → ∃ v, fvs.lookup f = some v ∧ Rep X.K H' β' M.length d v) →
      wMany X.K W D (hs.map fun p => (.ref (xa p.1), tSu X.K xa P none (G p.2.2))) (.ref (xa k)) (some dx) σ' H' := by
  induction hs with
  | nil => exact fun β' H' σ' dx fvs e1 s1 hdx hfl => q β' H' σ' dx fvs e1 s1 hdx hfl
  | cons p hs ih =>
    obtain ⟨j, n, b⟩ := p
    obtain ⟨e0, hj⟩ := hn (j, n, b) List.mem_cons_self
    have e0 : n = none := e0
    subst e0
    unfold clause at q
    rw [ex] at q
    intro β' H' σ' dx fvs e1 s1 hdx hfl
    refine ⟨decide (j ∈ xc.up), T.exm k xc j ex hk hj, fun hy a ha => ?_, fun hno => ?_⟩
    · have hy := of_decide_eq_true hy
      dsimp only at q
      rw [if_pos hy] at q
      have q : PostS X.K W xa none none H β N0 ((G b k fs ρ M).map (gone none)) D := q
      exact ⟨k, fs, dx, hk, rfl, rfl, β', ρ, M, ⟨s1.env, s1.heap, (fun i hi => by cases hi), fvs, hdx, hfl⟩, PostS.hot0 (PostS.ext q e1)⟩
    · have hno := of_decide_eq_false hno
      dsimp only at q
      rw [if_neg hno] at q
      exact ih (fun p hp => hn p (List.mem_cons_of_mem _ hp)) q β' H' σ' dx fvs e1 s1 hdx hfl
/-- the clauses of a try, all without a name -/
inductive ClsOk (X : Cx) (xa : Nat → Addr) (P : Pg) (G : List S → Nat → Flds → Env → MH → SRes) : List ExceptHandler → List (Nat × Option Nat × List S) → Prop
  | nil : ClsOk X xa P G [] []
  | cons {y : Str} {j : Nat} {b : List S} {b₀ : Stmt} {suite : List Stmt} {np p' : Pos} {hds : List ExceptHandler} {hs : List (Nat × Option Nat × List S)} (hgy : Gl X y) (hmy : X.mg y = some (.ref (xa j))) (hdy : nm y = true) (hj : j < P.xcs.length)
      (hsu : ∀ (k : Nat) (fl : Flds) (h : Hx) (oe : Obj) (pn : List (Addr × Obj)), k < P.live → h.i = none → HotX (X.suite h.a ((h.a, oe) :: pn)) (xa k) h → PSs (X.suite h.a ((h.a, oe) :: pn)) (b₀ :: suite) (tS X.K WF xa (some h) (some (k, fl)) (G b k fl))) (r : ClsOk X xa P G hds hs) :
      ClsOk X xa P G (.ExceptHandler (some (.Name y np)) none (b₀ :: suite) p' :: hds) ((j, none, b) :: hs)
theorem ClsOk.hds {P : Pg} {G : List S → Nat → Flds → Env → MH → SRes} {hds : List ExceptHandler} {hs : List (Nat × Option Nat × List S)} (c : ClsOk X xa P G hds hs) : HdsOk X hds (hs.map fun p => (.ref (xa p.1), tSu X.K xa P none (G p.2.2))) ∧ ∀ p ∈ hs, p.2.1 = none ∧ p.1 < P.xcs.length := by
  induction c with
  | nil => exact ⟨.nil, fun p hp => by cases hp⟩
  | cons hgy hmy hdy hj hsu r ih =>
    refine ⟨.cons ⟨hgy, (nm_ok hdy).1, .inl hmy⟩ (pss_su (P := P) (n := none) hsu) ih.1, fun p hp => ?_⟩
    rcases List.mem_cons.mp hp with rfl | hp
    · exact ⟨rfl, hj⟩
    · exact ih.2 p hp
theorem s_tryN {P : Pg} {body : List Stmt} {h₀ : ExceptHandler} {hds : List ExceptHandler} {gb : Env → MH → SRes} {hs : List (Nat × Option Nat × List S)} {G : List S → Nat → Flds → Env → MH → SRes} (T : XTab X.K xa P) (hst : X.stack = X.env :: X.outer) (hf : X.env.frame = some X.env.locals) (tk : Takes X W)
    (hb : ∀ (W : WX) (pn : List (Addr × Obj)) (xe : Value → Shared → Prop), Takes (X.tr pn xe) W → PassesOwn (model X.prog X.w) X.A X.env xe → PSs (X.tr pn xe) body (tS X.K W xa none none gb))
    (hh : ClsOk X xa P G (h₀ :: hds) hs) :
    PS X (.Try body (h₀ :: hds) [] [] pos) (tS X.K W xa none none fun ρ M => match gb ρ M with
      | .exn k fs ρ M => if k < P.live then match clause P k hs with
        | some (n, b) => if slotIn n ρ then (G b k fs (gone n ρ) M).map (gone n) else .stuck
        | none => .exn k fs ρ M
        else .stuck
      | r => r) := by
  obtain ⟨h1, h2⟩ := hh.hds
  refine PS.imp (L2.ps_try_many hst hf tk hb h1) fun D σ H ⟨β, ρ, M, sr, q⟩ => ⟨β, ρ, M, sr, ?_⟩
  dsimp only at q
  cases e : gb ρ M with
  | nx ρ' M' => rw [e] at q; exact q
  | bk ρ' M' => rw [e] at q; exact q
  | ct ρ' M' => rw [e] at q; exact q
  | rt d M' => rw [e] at q; exact q
  | stuck => rw [e] at q; exact q
  | exn k fs ρ' M' =>
    rw [e] at q
    dsimp only at q
    by_cases hk : k < P.live
    · rw [if_pos hk] at q
      exact s_tryN_read (gb := gb) (G := G) (ρ := ρ') (M := M') (fs := fs) T h2 (List.getElem?_eq_getElem (Nat.lt_of_lt_of_le hk T.le)) hk q
    · rw [if_neg hk] at q
      exact q.elim
end
end LX

set_option Elab.async false
set_option linter.all false
set_option maxRecDepth 100000
set_option maxHeartbeats 2000000
/-! LxMix: except clauses, some with a name, some without. -/
namespace LX
open PySem L2 PyProof.Rows
/-- how a named clause ends -/
def endN (D : Ends) : Option Nat → Ends
  | none => D
  | some i => { nx := fun σ H => D.nx (σ.set i none) H, rt := D.rt, bk := fun σ H => D.bk (σ.set i none) H, ct := fun σ H => D.ct (σ.set i none) H }
def inN (a : Addr) (σ : L2.St) : Option Nat → L2.St
  | none => σ
  | some i => σ.set i (some (.ref a))
abbrev CL1 := Value × Option Nat × (Addr → Value → Option Addr → TS)
/-- the clauses, one behind the other -/
def wMx (K : PySem.W.Frag) (Wo : WX) (D : Ends) : List CL1 → WX
  | [] => Wo
  | q :: r => fun cls d σ H => ∃ k, PySem.W.exmOne K cls q.1 = some k ∧ (k = true → ∀ a, H a = none → q.2.2 a cls d (endN D q.2.1) (inN a σ q.2.1) H) ∧ (k = false → wMx K Wo D r cls d σ H)
def SuOk (Y : Cx) (ss : List Stmt) (ts : Addr → Value → Option Addr → TS) : Prop := ∀ (a : Addr) (ob : Obj) (cls : Value) (d : Option Addr) (ps : List (Addr × Obj)), Zc cls d ob → (∃ us, ob.data = .fields us) → PSs (Y.suite a ((a, ob) :: ps)) ss (ts a cls d)
inductive MxOk (Y : Cx) : List ExceptHandler → List CL1 → Prop
  | nil : MxOk Y [] []
  | anon {y : Str} {c : Value} {ts : Addr → Value → Option Addr → TS} {s1 : Stmt} {ss : List Stmt} {p p' : Pos} {hs : List ExceptHandler} {l : List CL1} (hn : Names Y y c) (hu : SuOk Y (s1 :: ss) ts) (r : MxOk Y hs l) : MxOk Y (.ExceptHandler (some (.Name y p)) none (s1 :: ss) p' :: hs) ((c, none, ts) :: l)
  | named {y z : Str} {j : Nat} {c : Value} {ts : Addr → Value → Option Addr → TS} {s1 : Stmt} {ss : List Stmt} {p p' : Pos} {hs : List ExceptHandler} {l : List CL1} (hi : Y.N[j]? = some z) (hk : Y.env.kindOf z = some .local) (hn : Names Y y c) (hu : SuOk Y (s1 :: ss) ts) (r : MxOk Y hs l) : MxOk Y (.ExceptHandler (some (.Name y p)) (some z) (s1 :: ss) p' :: hs) ((c, some j, ts) :: l)
section
variable {Y : Cx} {bd : List Stmt} {h1 : ExceptHandler} {hs : List ExceptHandler} {l : List CL1} {pos : Pos} {tb : WX → TS} {Wo : WX}
theorem sp_flow {pins : List (Addr × Obj)} {D : Ends} {a : Addr} {q : Addr × Obj} {f : Flow} {t : Shared} (ok : Y.Ok) (z : SP (Y.suite a (q :: (Y.pn ++ pins))) [] D f t) : SP Y pins D f t := by
  cases f with
  | next => obtain ⟨x, G, J, w⟩ := z; exact ⟨x, G, J.unsuite ok, w⟩
  | brk => obtain ⟨x, G, J, w⟩ := z; exact ⟨x, G, J.unsuite ok, w⟩
  | cont => obtain ⟨x, G, J, w⟩ := z; exact ⟨x, G, J.unsuite ok, w⟩
  | ret u => obtain ⟨v, x, G, J, r, w⟩ := z; exact ⟨v, x, G, J.unsuite ok, r, w⟩
theorem ps_try_mix (ek : Y.stack = Y.env :: Y.outer) (ef : Y.env.frame = some Y.env.locals) (hN : Y.N.Nodup) (tk : Takes Y Wo)
    (hb : ∀ (W : WX) (ps : List (Addr × Obj)) (xe : Value → Shared → Prop), Takes (Y.tr ps xe) W → PassesOwn (model Y.prog Y.w) Y.A Y.env xe → PSs (Y.tr ps xe) bd (tb W))
    (hh : MxOk Y (h1 :: hs) l) : PS Y (.Try bd (h1 :: hs) [] [] pos) (fun D σ H => tb (wMx Y.K Wo D l) D σ H) := by
  refine ⟨fun pins s0 σ0 H0 D I0 h0 => ?_⟩
  have ok := I0.ok
  have efr : Y.A.frames = some (Y.env :: Y.outer) := ok.frames.trans (congrArg some ek)
  refine wpAny_Try_except (wpAny_mono ((hb (wMx Y.K Wo D l) (Y.pn ++ pins) (fun e t1 => wpAny (model Y.prog Y.w) Y.A (noteFrame e Y.env) (fun _ t2 => wpAny (model Y.prog Y.w) Y.A (setFlight e none) (fun _ t3 =>
    wpAny (model Y.prog Y.w) Y.A (handleBy e Y.env (h1 :: hs)) (SP Y pins D) Y.xe t3) Y.xe t2) Y.xe t1) (fun u t flies => ?_) PassesOwn.looking).run [] s0 σ0 H0 D (I0.toTry _) h0) (fun fl t ends => ?_) fun e t he => he)
  · obtain ⟨a, B, sB, pins2, σ, H, cls, d, rfl, Jt, nb, up, sky, fresh, os, ag, w⟩ := flies
    have J : Inv Y pins σ H sB := Jt.ofTry ok
    rw [show (Y.tr (Y.pn ++ pins) _).stack = Y.env :: Y.outer from ek] at sky
    show wpAny (model Y.prog Y.w) Y.A (noteFrame (.ref a) Y.env) _ _ _
    refine Sky.land Zc.steady efr ef sky fun g flg upg => ?_
    have Jg : Inv Y pins σ H { t with heap := g } := J.landed nb flg.1 (up.trans upg) os ag
    obtain ⟨ob, us, eo, zo, dd⟩ := flg.there
    have nin : a ∉ frs (Y.env :: Y.outer) := fun hm => by
      obtain ⟨_, o2, e2, hnf⟩ := flg.2.2.1.mem hm
      obtain rfl := Option.some.inj (eo.symm.trans e2)
      exact hnf _ dd
    have nL : a ≠ Y.env.locals := fun z => nin (List.mem_filterMap.mpr ⟨Y.env, List.mem_cons_self, ef.trans (congrArg some z.symm)⟩)
    have nF : a ∉ Y.fs := fun hm => by
      obtain ⟨en, me, q⟩ := List.mem_filterMap.mp hm
      exact nin (List.mem_filterMap.mpr ⟨en, List.mem_cons_of_mem _ me, q⟩)
    have Sg := Jg.suite eo dd fresh nL nF
    have LT : PySem.W.Looks (model Y.prog Y.w) g (typeOf (.ref a)) cls := fun A Q E t' k q => wpAny_typeOf_ref (k _ _ eo) (zo.1.symm ▸ q)
    have tst : ∀ {y : Str} {c : Value} {p : Pos} {Q E : Value → Shared → Prop}, Names Y y c → Q c { t with heap := g } → wpAny (model Y.prog Y.w) (Y.A.mark (some (.ref a))) (eval (.Name y p) Y.env) Q E { t with heap := g } := fun hn q => by
      rcases hn with ⟨gg, db, m1 | ⟨m1, bv, nn⟩⟩
      · exact ld_glob (X := Y.suite a ((a, ob) :: (Y.pn ++ pins))) Sg gg m1 q db
      · exact ld_blt (X := Y.suite a ((a, ob) :: (Y.pn ++ pins))) Sg gg m1 bv q nn db
    have walk : ∀ {hs' : List ExceptHandler} {l' : List CL1}, MxOk Y hs' l' → wMx Y.K Wo D l' cls d σ H → wpAny (model Y.prog Y.w) Y.A (handleBy (.ref a) Y.env hs') (SP Y pins D) Y.xe { t with heap := g } := by
      intro hs' l' ok'
      induction ok' with
      | nil =>
        intro w
        refine wpAny_handleBy_nil ?_
        obtain ⟨z1, z2, z3, o9, v9, T9, p9, t9, e9, f9, d9, n9, r9⟩ := id flg
        unfold PySem.passOn
        refine wpAny_bind (wpAny_field e9 d9 n9 ?_)
        rw [if_neg (show ¬ ((Value.ref T9 == Value.none) = true) from by simp)]
        have last : wpAny (model Y.prog Y.w) Y.A (setFlight (.ref a) Y.env.frame) (fun _ t4 => wpAny (model Y.prog Y.w) Y.A (throw (.ref a) : Sem Flow) (SP Y pins D) Y.xe t4) Y.xe { t with heap := g } := by
          rw [ef]
          exact HandSPX.setFlight_upZ flg fun g4 l4 u4 => wpAny_throw (tk _ _ ⟨a, B, sB, pins, σ, H, cls, d, rfl, J, nb, (up.trans upg).trans u4, .inr (.inr (ek.symm ▸ l4)), fresh, os, ag, w⟩)
        first
          | exact wpAny_bind (wpAny_pure (wpAny_bind last))
          | exact wpAny_bind last
      | anon hn hu r ih =>
        intro w
        obtain ⟨k, ek1, yes, no⟩ := w
        refine wpAny_handleBy_cons (codeAny_handlers_test (tst hn ((PySem.W.exm_one (M := model Y.prog Y.w) Jg.kIn LT ek1).here ?_))) (fun q => nomatch q)
        cases k with
        | false => exact ih (no rfl)
        | true =>
          refine codeAny_handlers_suite (HandSPX.lands_againZ flg fun g4 l4 u4 => ?_)
          obtain ⟨o4, v4, e4, z4, d4⟩ := l4.there
          have S4 := (J.landed nb l4.1 ((up.trans upg).trans u4) os ag : Inv Y pins σ H { t with heap := g4 }).suite e4 d4 fresh nL nF
          exact wpAny_mono ((hu a o4 cls d (Y.pn ++ pins) z4 ⟨_, d4⟩).run [] _ _ H _ S4 (yes rfl a fresh)) (fun f t6 z => sp_flow ok z) fun _ _ z => z.elim
      | named hi hk hn hu r ih =>
        intro w
        obtain ⟨k, ek1, yes, no⟩ := w
        refine wpAny_handleBy_cons (codeAny_handlers_test (tst hn ((PySem.W.exm_one (M := model Y.prog Y.w) Jg.kIn LT ek1).here ?_))) (fun q => nomatch q)
        cases k with
        | false => exact ih (no rfl)
        | true =>
          refine codeAny_handlers_suite_as (HandSPX.lands_againZ flg fun g4 l4 u4 => ?_)
          obtain ⟨o4, v4, e4, z4, d4⟩ := l4.there
          have S4 := (J.landed nb l4.1 ((up.trans upg).trans u4) os ag : Inv Y pins σ H { t with heap := g4 }).suite e4 d4 fresh nL nF
          refine store_ok (X := Y.suite a ((a, o4) :: (Y.pn ++ pins))) (v := .ref a) S4 hN hi (.inl hk) rfl (fun t5 S5 => ?_) (.inr hk)
          refine wpAny_mono ((hu a o4 cls d (Y.pn ++ pins) z4 ⟨_, d4⟩).run [] t5 _ H _ S5 (yes rfl a fresh)) (fun f t6 z => ?_) fun _ _ z => z.elim
          cases f with
          | next => obtain ⟨x, G, S6, q6⟩ := z; exact gone_ok (S6.unsuite ok) hN hi hk fun t7 J7 => ⟨_, _, J7, q6⟩
          | brk => obtain ⟨x, G, S6, q6⟩ := z; exact gone_ok (S6.unsuite ok) hN hi hk fun t7 J7 => ⟨_, _, J7, q6⟩
          | cont => obtain ⟨x, G, S6, q6⟩ := z; exact gone_ok (S6.unsuite ok) hN hi hk fun t7 J7 => ⟨_, _, J7, q6⟩
          | ret u => obtain ⟨v, x, G, S6, r6, q6⟩ := z; exact gone_ok (S6.unsuite ok) hN hi hk fun t7 J7 => ⟨_, _, _, J7, r6, q6⟩
    exact walk hh w
  · cases fl with
    | next => obtain ⟨x, G, J, q⟩ := ends; exact wpAny_execs_nil ⟨x, G, J.ofTry ok, q⟩
    | brk => obtain ⟨x, G, J, q⟩ := ends; exact ⟨x, G, J.ofTry ok, q⟩
    | cont => obtain ⟨x, G, J, q⟩ := ends; exact ⟨x, G, J.ofTry ok, q⟩
    | ret u => obtain ⟨v, x, G, J, r, q⟩ := ends; exact ⟨v, x, G, J.ofTry ok, r, q⟩
end
section
variable {X : Cx} {W : WX} {xa : Nat → Addr} {p p' pos np : Pos} {x : Str}
/-- the clauses of a try, by the IR -/
inductive ClOk (X : Cx) (xa : Nat → Addr) (P : Pg) (G : List S → Nat → Flds → Env → MH → SRes) : List ExceptHandler → List (Nat × Option Nat × List S) → Prop
  | nil : ClOk X xa P G [] []
  | cons {y : Str} {j : Nat} {zn : Option Str} {o : Option Nat} {b : List S} {s1 : Stmt} {ss : List Stmt} {np p' : Pos} {hds : List ExceptHandler} {hs : List (Nat × Option Nat × List S)} (hz : (zn = none ∧ o = none) ∨ ∃ z i, zn = some z ∧ o = some i ∧ X.N[i]? = some z ∧ X.env.kindOf z = some .local) (hgy : Gl X y) (hmy : X.mg y = some (.ref (xa j))) (hdy : nm y = true) (hj : j < P.xcs.length)
      (hsu : ∀ (k : Nat) (fl : Flds) (h : Hx) (oe : Obj) (pn : List (Addr × Obj)), k < P.live → h.i = o → HotX (X.suite h.a ((h.a, oe) :: pn)) (xa k) h → PSs (X.suite h.a ((h.a, oe) :: pn)) (s1 :: ss) (tS X.K WF xa (some h) (some (k, fl)) (G b k fl))) (r : ClOk X xa P G hds hs) :
      ClOk X xa P G (.ExceptHandler (some (.Name y np)) zn (s1 :: ss) p' :: hds) ((j, o, b) :: hs)
theorem ClOk.mx {P : Pg} {G : List S → Nat → Flds → Env → MH → SRes} {hds : List ExceptHandler} {hs : List (Nat × Option Nat × List S)} (c : ClOk X xa P G hds hs) : MxOk X hds (hs.map fun p => (.ref (xa p.1), p.2.1, tSu X.K xa P p.2.1 (G p.2.2))) ∧ ∀ p ∈ hs, p.1 < P.xcs.length ∧ ∀ i, p.2.1 = some i → ∃ z, X.N[i]? = some z := by
  induction c with
  | nil => exact ⟨.nil, fun p hp => by cases hp⟩
  | cons hz hgy hmy hdy hj hsu r ih =>
    rcases hz with ⟨rfl, rfl⟩ | ⟨z, i, rfl, rfl, hi, hk⟩
    · refine ⟨.anon ⟨hgy, (nm_ok hdy).1, .inl hmy⟩ (pss_su (P := P) (n := none) hsu) ih.1, fun p hp => ?_⟩
      rcases List.mem_cons.mp hp with rfl | hp
      · exact ⟨hj, fun i e => by cases e⟩
      · exact ih.2 p hp
    · refine ⟨.named hi hk ⟨hgy, (nm_ok hdy).1, .inl hmy⟩ (pss_su (P := P) (n := some i) hsu) ih.1, fun p hp => ?_⟩
      rcases List.mem_cons.mp hp with rfl | hp
      · exact ⟨hj, fun i' e => by cases e; exact ⟨z, hi⟩⟩
      · exact ih.2 p hp
theorem s_tryM_read {P : Pg} {hs : List (Nat × Option Nat × List S)} {G : List S → Nat → Flds → Env → MH → SRes} (T : XTab X.K xa P) (hn : ∀ p ∈ hs, p.1 < P.xcs.length) {D : Ends} {k : Nat} {xc : Xc} (ex : P.xcs[k]? = some xc) (hk : k < P.live) {fs : Flds} {ρ : Env} {M : MH} {H : Hp} {β : Bt} {N0 : Nat}
    (q : PostS X.K W xa none none H β N0 (match clause P k hs with
      | some (n, b) => if slotIn n ρ then (G b k fs (gone n ρ) M).map (gone n) else .stuck
      | none => .exn k fs ρ M) D) :
    ∀ β' H' σ' dx fvs, Ext β N0 H β' M.length H' → SR X.K none none H' β' M ρ σ' → H' dx = some (.xd fvs) → (∀ f d, fs.lookup f = some d → ∃ v, fvs.lookup f = some v ∧ Rep X.K H' β' M.length d v) →
      wMx X.K W D (hs.map fun p => (.ref (xa p.1), p.2.1, tSu X.K xa P p.2.1 (G p.2.2))) (.ref (xa k)) (some dx) σ' H' := by
  induction hs with
  | nil => exact fun β' H' σ' dx fvs e1 s1 hdx hfl => q β' H' σ' dx fvs e1 s1 hdx hfl
  | cons p hs ih =>
    obtain ⟨j, n, b⟩ := p
    have hj : j < P.xcs.length := hn (j, n, b) List.mem_cons_self
    unfold clause at q
    rw [ex] at q
    intro β' H' σ' dx fvs e1 s1 hdx hfl
    refine ⟨decide (j ∈ xc.up), T.exm k xc j ex hk hj, fun hy a ha => ?_, fun hno => ?_⟩
    · have hy := of_decide_eq_true hy
      dsimp only at q
      rw [if_pos hy] at q
      dsimp only at q
      by_cases hsl : slotIn n ρ = true
      case neg => rw [if_neg hsl] at q; exact q.elim
      rw [if_pos hsl] at q
      cases n with
      | none => exact ⟨k, fs, dx, hk, rfl, rfl, β', ρ, M, ⟨s1.env, s1.heap, (fun i hi => by cases hi), fvs, hdx, hfl⟩, PostS.hot0 (PostS.ext q e1)⟩
      | some i =>
        refine ⟨k, fs, dx, hk, rfl, rfl, β', ρ.set i none, M, ⟨s1.env.gone i _, s1.heap, ?_⟩, PostS.hot (PostS.ext q e1)⟩
        refine ⟨fun i' hi' => ?_, fvs, hdx, hfl⟩
        cases hi'
        exact List.getElem?_set_self (by rw [s1.env.len]; exact of_decide_eq_true hsl)
    · have hno := of_decide_eq_false hno
      dsimp only at q
      rw [if_neg hno] at q
      exact ih (fun p hp => hn p (List.mem_cons_of_mem _ hp)) q β' H' σ' dx fvs e1 s1 hdx hfl
theorem s_tryM {P : Pg} {body : List Stmt} {h₀ : ExceptHandler} {hds : List ExceptHandler} {gb : Env → MH → SRes} {hs : List (Nat × Option Nat × List S)} {G : List S → Nat → Flds → Env → MH → SRes} (T : XTab X.K xa P) (hst : X.stack = X.env :: X.outer) (hf : X.env.frame = some X.env.locals) (hN : X.N.Nodup) (tk : Takes X W)
    (hb : ∀ (W : WX) (pn : List (Addr × Obj)) (xe : Value → Shared → Prop), Takes (X.tr pn xe) W → PassesOwn (model X.prog X.w) X.A X.env xe → PSs (X.tr pn xe) body (tS X.K W xa none none gb))
    (hh : ClOk X xa P G (h₀ :: hds) hs) :
    PS X (.Try body (h₀ :: hds) [] [] pos) (tS X.K W xa none none fun ρ M => match gb ρ M with
      | .exn k fs ρ M => if k < P.live then match clause P k hs with
        | some (n, b) => if slotIn n ρ then (G b k fs (gone n ρ) M).map (gone n) else .stuck
        | none => .exn k fs ρ M
        else .stuck
      | r => r) := by
  obtain ⟨g1, g2⟩ := hh.mx
  refine PS.imp (ps_try_mix hst hf hN tk hb g1) fun D σ H ⟨β, ρ, M, sr, q⟩ => ⟨β, ρ, M, sr, ?_⟩
  dsimp only at q
  cases e : gb ρ M with
  | nx ρ' M' => rw [e] at q; exact q
  | bk ρ' M' => rw [e] at q; exact q
  | ct ρ' M' => rw [e] at q; exact q
  | rt d M' => rw [e] at q; exact q
  | stuck => rw [e] at q; exact q
  | exn k fs ρ' M' =>
    rw [e] at q
    dsimp only at q
    by_cases hk : k < P.live
    · rw [if_pos hk] at q
      exact s_tryM_read (G := G) (ρ := ρ') (M := M') (fs := fs) T (fun p hp => (g2 p hp).1) (List.getElem?_eq_getElem (Nat.lt_of_lt_of_le hk T.le)) hk q
    · rw [if_neg hk] at q
      exact q.elim
end
end LX

set_option Elab.async false
set_option linter.all false
set_option maxRecDepth 100000
set_option maxHeartbeats 2000000
/-! LxKw: calls whose arguments are all named. -/
namespace LX
open PySem L2 PyProof.Rows
def gq {α : Type} (n : Nat) (pm : List Nat) (us ws : List α) : List α := if us.length = 0 ∧ ws.length = n then permL pm ws else []
theorem vals_get : ∀ {zs : List V} {ws : List Value}, Vals zs ws → ∀ i : Nat, (zs[i]? = none ∧ ws[i]? = none) ∨ ∃ z w, zs[i]? = some z ∧ ws[i]? = some w ∧ RelV z w
  | _, _, .nil, i => .inl ⟨by simp, by simp⟩
  | _, _, .cons r t, 0 => .inr ⟨_, _, rfl, rfl, r⟩
  | _, _, .cons r t, i + 1 => by simpa using vals_get t i
theorem vals_perm {zs : List V} {ws : List Value} (r : Vals zs ws) : ∀ pm : List Nat, Vals (permL pm zs) (permL pm ws)
  | [] => .nil
  | i :: pm => by
    have ih := vals_perm r pm
    unfold permL at ih ⊢
    rcases vals_get r i with ⟨h1, h2⟩ | ⟨z, w, h1, h2, h3⟩
    · rw [List.filterMap_cons, List.filterMap_cons, h1, h2]
      exact ih
    · rw [List.filterMap_cons, List.filterMap_cons, h1, h2]
      exact .cons h3 ih
theorem reps_perm {K : PySem.W.Frag} {H : Hp} {β : Bt} {N : Nat} : ∀ {ds : List D} {vs : List V}, Reps K H β N ds vs → ∀ pm : List Nat, Reps K H β N (permL pm ds) (permL pm vs)
  | ds, vs, r, [] => .nil
  | ds, vs, r, i :: pm => by
    have ih := reps_perm r pm
    have hl := r.length
    unfold permL at ih ⊢
    rw [List.filterMap_cons, List.filterMap_cons]
    cases q : ds[i]? with
    | none =>
      have q2 : vs[i]? = none := by
        rw [List.getElem?_eq_none_iff] at q ⊢
        omega
      rw [q2]
      exact ih
    | some d =>
      have key : ∀ {ds : List D} {vs : List V} {i : Nat} {d : D}, Reps K H β N ds vs → ds[i]? = some d → ∃ v, vs[i]? = some v ∧ Rep K H β N d v := by
        intro ds
        induction ds with
        | nil => intro vs i d _ h; simp at h
        | cons e es ihh =>
          intro vs i d r h
          obtain ⟨v, w, rfl, r1, r2⟩ := r.consI
          cases i with
          | zero => cases h; exact ⟨v, rfl, r1⟩
          | succ i =>
            obtain ⟨u, h1, h2⟩ := ihh r2 (by simpa using h)
            exact ⟨u, by simpa using h1, h2⟩
      obtain ⟨v, h1, h2⟩ := key r q
      rw [h1]
      exact .cons h2 ih
/-- how a def's named arguments bind -/
def KBq (K : PySem.W.Frag) (fd : FuncData) (ps ks : List Str) (pm : List Nat) : Prop := KBinds K fd ps ks (gq ks.length pm) (gq ks.length pm)
theorem kb_mk {K : PySem.W.Frag} {fd : FuncData} {ps ks : List Str} {pm : List Nat} (h0 : ps.length ≠ 0) (h : ∀ (s : Shared) (ws : List Value), ws.length = ks.length → BindsTo s fd ⟨[], ks.zip ws⟩ (ps.zip (permL pm ws))) : KBq K fd ps ks pm where
  to := fun s us ws X hl => by
    unfold gq at hl ⊢
    by_cases q : us.length = 0 ∧ ws.length = ks.length
    · rw [if_pos q]
      obtain rfl := List.length_eq_zero_iff.mp q.1
      exact h s ws q.2
    · rw [if_neg q] at hl
      exact absurd hl.symm h0
  rel := fun {vs us zs ws} r1 r2 => by
    unfold gq
    rw [r1.length, r2.length]
    split
    · exact vals_perm r2 pm
    · exact .nil
def AllI {α : Type} (P : Nat → α → Prop) : Nat → List α → Prop
  | _, [] => True
  | i, a :: as => P i a ∧ AllI P (i + 1) as
theorem AllI.get {α : Type} {P : Nat → α → Prop} : ∀ {l : List α} {s i : Nat} {a : α}, AllI P s l → l[i]? = some a → P (s + i) a
  | [], _, _, _, _, h => by simp at h
  | b :: l, s, 0, a, q, h => by
    cases h
    exact q.1
  | b :: l, s, i + 1, a, q, h => by
    have := AllI.get (l := l) (s := s + 1) (i := i) q.2 (by simpa using h)
    rw [show s + (i + 1) = s + 1 + i by omega]
    exact this
theorem AllI.mem {α : Type} {P : α → Prop} {l : List α} {a : α} (h : AllI (fun _ => P) 0 l) (m : a ∈ l) : P a := by
  obtain ⟨i, e⟩ := List.mem_iff_getElem?.mp m
  exact AllI.get h e
section
variable {X : Cx} {CX : CXT} {k : Nat} {f : Addr} {fd : FuncData} {ps ks : List Str} {sp : Sp} {E : L2.St → XK} {x : Str} {p pos kpos : Pos} {kws : List Keyword} {tk : TA} {pm : List Nat} {nm : Option Str}
theorem run_kw {pins : List (Addr × Obj)} {σ : L2.St} {H : Hp} {s : Shared} {Q : VK} {E : XK} {ws : List Value} {zs : List V} (F : FnOk X.prog X.w X.K X.mg X.base CX k f fd ps sp) (hr : Room k X.A) (hb : KBq X.K fd ps ks pm) (hx : PassesAt CX X σ E) (I : Inv X pins σ H s) (rz : Vals zs ws) (h : sp (gq ks.length pm [] zs) H Q E) :
    wpAny (model X.prog X.w) X.A (call (.ref f) [] (ks.zip ws)) (EP X pins σ Q) X.xe s := by
  have r2 := hb.rel (.nil : Vals [] []) rz
  have hl : (gq ks.length pm ([] : List Value) ws).length = ps.length := r2.length.symm.trans (F.len _ _ _ _ h)
  refine wpAny_call (codeAny_mono (F.run X.A X.stack s H ⟨[], ks.zip ws⟩ _ _ Q E hr I.env0 (hb.to s [] ws I.kIn hl) r2 h) fun r t ht => ?_)
  cases r with
  | error e => exact hx pins H s e t I ht
  | ok fl =>
    cases fl with
    | ret u => exact I.after ht
    | next => exact ht.elim
    | brk => exact ht.elim
    | cont => exact ht.elim
/-- f(k = v, ..) -/
theorem pe_kw (F : FnOk X.prog X.w X.K X.mg X.base CX k f fd ps sp) (hr : Room k X.A) (hg : Gl X x) (hm : X.mg x = some (.ref f)) (hk : PySem.W.keepIn X.K (.ref f) = true) (hb : KBq X.K fd ps ks pm) (hx : ∀ σ, PassesAt CX X σ (E σ)) (hkw : PK X kws tk)
    (hall : (backToKw pos (keywordEach kws X.env)).all (·.1.isSome) = true) (hks : (backToKw pos (keywordEach kws X.env)).filterMap (·.1) = ks) (hdb : (x == ("__debug__" : Str)) = false) (hpl : ((backTo pos (starEach [] X.env)).any (·.1) || (backToKw pos (keywordEach kws X.env)).any (·.1.isNone)) = false) :
    PE X (.Call (.Name x p) [] kws pos) (fun σ H Q => tk σ H fun zs H1 => sp (gq ks.length pm [] zs) H1 Q (E σ)) := by
  refine ⟨fun pins s σ H Q I h => wpAny_Call_Name_kw (ld_glob I hg hm ?_ hdb)⟩
  refine PySem.W.callWith_KW0 (h₀ := X.base) I.ok.mod.kin hk hall (thn (hkw.run pos pins s σ H _ I h) fun ws t ⟨zs, H1, J, rz, q⟩ => ⟨J.kIn, ?_⟩) hpl
  rw [hks]
  exact run_kw F hr hb (hx σ) J rz q
theorem PK.imp {t t' : TA} (h : PK X kws t) (q : ∀ σ H Q, t' σ H Q → t σ H Q) : PK X kws t' := ⟨fun pos pins s σ H Q I z => h.run pos pins s σ H Q I (q σ H Q z)⟩
variable {W : WX} {xa : Nat → Addr} {hx : Option Hx} {η : Option (Nat × Flds)} {fa : LX.Env → MH → Res D} {fs : LX.Env → MH → Res (List D)} {e : Expr}
theorem dk_nil : PK X [] (tDs X.K W xa hx η fun ρ M => .ok [] M) := PK.imp pk_nil fun σ H Q ⟨β, ρ, M, sr, h⟩ => h.okR sr.heap Reps.nil
theorem dk_cons (ha : PE X e (tD X.K W xa hx η fa)) (hr : PK X kws (tDs X.K W xa hx η fs)) : PK X (⟨nm, e, kpos⟩ :: kws) (tDs X.K W xa hx η fun ρ M => (fa ρ M).bind fun d M => (fs ρ M).bind fun ds M => .ok (d :: ds) M) :=
  PK.imp (pk_cons ha hr) fun σ H Q h => tR.seq h fun β ρ M x v H1 sr r1 h1 =>
    tR.seq2 sr h1 fun β2 M2 ds vs H2 sr2 mo _ r2 h2 => h2.okR sr2.heap (.cons (mo r1) r2)
theorem kw_all {env : PySem.Env} : ∀ {kws : List Keyword}, kws.all (fun k => k.arg.isSome) = true → (backToKw pos (keywordEach kws env)).all (·.1.isSome) = true
  | [], _ => rfl
  | ⟨a, e, q⟩ :: kws, h => by
    rw [List.all_cons, Bool.and_eq_true] at h
    have ih := kw_all (env := env) (kws := kws) h.2
    show (a.isSome && (backToKw pos (keywordEach kws env)).all (·.1.isSome)) = true
    rw [ih, Bool.and_true]
    exact h.1
theorem kw_some {env : PySem.Env} : ∀ {kws : List Keyword}, kws.all (fun k => k.arg.isSome) = true → (backToKw pos (keywordEach kws env)).any (·.1.isNone) = false
  | [], _ => rfl
  | ⟨a, e, q⟩ :: kws, h => by
    rw [List.all_cons, Bool.and_eq_true] at h
    have ih := kw_some (env := env) (kws := kws) h.2
    show (a.isNone || (backToKw pos (keywordEach kws env)).any (·.1.isNone)) = false
    rw [ih, Bool.or_false]
    have h1 : a.isSome = true := h.1
    cases a with
    | none => cases h1
    | some _ => rfl
theorem kw_names {env : PySem.Env} : ∀ kws : List Keyword, (backToKw pos (keywordEach kws env)).filterMap (·.1) = kws.filterMap (·.arg)
  | [] => rfl
  | ⟨a, e, q⟩ :: kws => by
    have ih := kw_names (env := env) kws
    show ((a, _) :: backToKw pos (keywordEach kws env)).filterMap (·.1) = _
    rw [List.filterMap_cons, List.filterMap_cons, ih]
/-- the def's promise at named arguments -/
theorem d_kw {F : List D → MH → Res D} {np : Nat} (hF : FnOk X.prog X.w X.K X.mg X.base (L2.CX X.prog X.w) k f fd ps (spF X.K xa np F)) (hr : Room k X.A) (hg : Gl X x) (hm : X.mg x = some (.ref f)) (hk : PySem.W.keepIn X.K (.ref f) = true) (hb : KBq X.K fd ps ks pm) (tk : Takes X W)
    (hn : ∀ ds M, F ds M ≠ .stuck → ds.length = np) (ha : PK X kws (tDs X.K W xa hx η fs)) (hdb : (x == ("__debug__" : Str)) = false) (hall : kws.all (fun k => k.arg.isSome) = true) (hks : kws.filterMap (·.arg) = ks) :
    PE X (.Call (.Name x p) [] kws pos) (tD X.K W xa hx η fun ρ M => (fs ρ M).bind fun ds M => if ds.length = ks.length then F (permL pm ds) M else .stuck) := by
  refine PE.imp (pe_kw hF hr hg hm hk hb (fun σ => passAt tk σ) ha (kw_all hall) ((kw_names kws).trans hks) hdb ?_) fun σ H Q h => tR.seq h fun β ρ M ds vs H1 sr r1 h1 => ?_
  · rw [kw_some hall]
    rfl
  · obtain ⟨hl, h1⟩ := Post.ite h1
    have eg : gq ks.length pm ([] : List V) vs = permL pm vs := if_pos ⟨rfl, r1.length.trans hl⟩
    rw [eg]
    have r2 := reps_perm r1 pm
    refine ⟨?_, β, M, permL pm ds, sr.heap, r2, ?_⟩
    · rw [r2.length]
      exact hn _ M fun z => by rw [z] at h1; exact h1
    · cases q : F (permL pm ds) M with
      | ok d M' => rw [q] at h1; exact h1
      | exn c fs M' => rw [q] at h1; exact h1
      | stuck => rw [q] at h1; exact h1.elim
end
section
variable {X : Cx} {W : WX} {xa : Nat → Addr} {hx : Option Hx} {η : Option (Nat × Flds)} {fa : LX.Env → MH → Res D} {o : Expr} {apos cpos : Pos}
theorem d_lower (ho : PE X o (tD X.K W xa hx η fa)) (hb : okBase o = true) (hl : (apos.endLine == cpos.line) = true) :
    PE X (.Call (.Attribute o "lower" apos) [] [] cpos) (tD X.K W xa hx η fun ρ M => (fa ρ M).bind fun x M => (ofO (lowD x) M).bind fun d M => .ok d M) :=
  PE.imp (pe_lower ho (base_of hb) hl) fun σ H Q h => tR.seq h fun β ρ M x v H1 sr r1 h1 => by
    obtain ⟨d, e1, h1⟩ := h1.ofO
    cases x with
    | str s =>
      have e2 : (if (s.all (fun c => decide (c < 128)) && decide (s.length ≤ 5592405)) = true then some (D.str (s.map lo1)) else none) = some d := e1
      by_cases hc : (s.all (fun c => decide (c < 128)) && decide (s.length ≤ 5592405)) = true
      · rw [if_pos hc] at e2
        obtain rfl := Option.some.inj e2
        rw [Bool.and_eq_true, decide_eq_true_eq, List.all_eq_true] at hc
        obtain ⟨hz, rfl⟩ := r1.strI
        refine ⟨⟨_, rfl⟩, _, rfl, rfl, by rw [len_str_arr]; exact hc.2, ?_⟩
        have el : Txt.lower (⟨s.toArray⟩ : Str) = ⟨(s.map lo1).toArray⟩ := by
          rw [PyProof.Rows.lower_ascii fun c hcm => of_decide_eq_true (hc.1 c (by simpa using hcm))]
          rw [List.map_toArray]
          rfl
        rw [el]
        exact h1.okR sr.heap (Rep.mkStr (by rw [List.length_map]; exact hz))
      · rw [if_neg hc] at e2
        cases e2
    | _ => cases e1
end
end LX

set_option Elab.async false
set_option linter.all false
set_option maxRecDepth 100000
set_option maxHeartbeats 2000000
/-! LxHot: a def of one parameter, called in an except suite with the error itself. -/
namespace LX
open PySem L2 PyProof.Rows
/-- where such a def's body stands -/
def cxQ (X : Cx) (N : List Str) (qual : Str) (st : Stmt) (f : Addr) (cd : Value) (s : Shared) (H : Hp) (a : Addr) (oe : Obj) : Cx := { L2H.cxH CX0 X.prog X.w X.K X.mg X.base N qual (defScope st) f cd X.A X.stack s H E0 (a, oe) with xe := fun _ _ => False }
theorem mark_same {A : Around} {v : Value} (h : A.handled = some v) : A.mark (some v) = A := by
  obtain ⟨⟩ := A
  simp only at h
  subst h
  rfl
theorem cxQ_suite {X : Cx} {N : List Str} {qual : Str} {st : Stmt} {f : Addr} {cd : Value} {s : Shared} {H : Hp} {a : Addr} {oe : Obj} (h : X.A.handled = some (.ref a)) : cxQ X N qual st f cd s H a oe = (cxQ X N qual st f cd s H a oe).suite a ((a, oe) :: []) := by
  have e : (cxQ X N qual st f cd s H a oe).A.mark (some (.ref a)) = (cxQ X N qual st f cd s H a oe).A := mark_same h
  show cxQ X N qual st f cd s H a oe = { cxQ X N qual st f cd s H a oe with A := (cxQ X N qual st f cd s H a oe).A.mark (some (.ref a)), calm := false, pn := [(a, oe)], xe := fun _ _ => False }
  rw [e]
  rfl
theorem call_q {X : Cx} {pins : List (Addr × Obj)} {σ : L2.St} {s : Shared} {H : Hp} {Q : VK} {x qual : Str} {st : Stmt} {f : Addr} {fd : FuncData} {N : List Str} {p0 : Str} {a : Addr} {oe : Obj} (F : Fun X.K x qual st f fd) (S : FnScope N [p0] (defScope st)) (hb : Binds X.K fd [p0] []) (hd : X.A.depth < recursionLimit) (hp : (a, oe) ∈ X.pn) (I : Inv X pins σ H s)
    (body : ∀ cdv, ∃ t, PSs (cxQ X N qual st f cdv s H a oe) (defBody st) t ∧ t { nx := fun _ H' => Q .non H', rt := Q } (L2.start N [.ref a]) H) : wpAny (model X.prog X.w) X.A (call (.ref f) [.ref a]) (EP X pins σ Q) X.xe s := by
  obtain ⟨oc, od, kV, doc, pm, an, cdv, ct, osl, rfl, lk, hcd⟩ := F.ex
  obtain ⟨g1, g2, g3, g4, g5⟩ := I.pin (a, oe) (List.mem_append_left _ hp)
  have hpin : L2H.PinOk X.stack H s (a, oe) := ⟨g1, g2, fun hm => (List.mem_cons.mp (I.stkSub a hm)).elim g3 g4, g5⟩
  have e0 := I.env0
  have kx : X.K.In s.heap := I.kIn
  have nl : s.heap.NoLimit := e0.mod.nolimit.keeps fun b o e => (e0.bs b o e).1
  have bt := hb s [.ref a] kx rfl
  have kinds : ∀ y ∈ [p0].zip [Value.ref a], (defScope st).names.lookup y.1 = some .local ∨ ((defScope st).names.lookup y.1 = some .cell ∧ ((cellsFrom (s.heap.objs.size + 1) (defScope st).names []).lookup y.1).isSome = true) := fun ⟨n, v⟩ hy => by
    rcases S.par n (List.of_mem_zip hy).1 with q | q
    · exact .inl q
    · exact .inr ⟨q, PySem.W.cellsFrom_some _ _ _ (.inl q)⟩
  refine wpAny_call (codeAny_mono (R := CR CX0 X.stack X.prog X.w H s Q E0) (codeAny_call_function hd (kx _ _ lk) rfl S.co S.gen rfl (PySem.W.codeRec_of kx hcd) (bt _ _ _ _ (wpAny_newFunctionEnv_cells S.kind kinds fun env he t y => ?_))) fun r t ht => ?_)
  · subst he
    refine ⟨nl.keeps y.toInCall.keep, codeAny_func ?_⟩
    obtain ⟨tt, hbody, hq⟩ := body cdv
    have J0 := L2H.inv_startH (CX := CX0) (E := E0) (f := f) (cd := cdv) (vs := [.ref a]) S hpin e0 rfl (.cons rfl .nil) y
    have J : Inv (cxQ X N qual st f cdv s H a oe) [] (L2.start N [.ref a]) H t := J0.toTry fun _ _ => False
    refine wpAny_mono (hbody.run [] t (L2.start N [.ref a]) H _ J hq) (fun fl t2 ends => ?_) fun e t2 z => z.elim
    cases fl with
    | ret u =>
      obtain ⟨v, x1, G, J2, rv, w⟩ := ends
      exact ⟨v, G, J2.os, J2.bare, J2.base, J2.hok, rv, w⟩
    | next =>
      obtain ⟨x1, G, J2, w⟩ := ends
      exact ⟨.non, G, J2.os, J2.bare, J2.base, J2.hok, rfl, w⟩
    | brk => obtain ⟨_, _, _, w⟩ := ends; exact w.elim
    | cont => obtain ⟨_, _, _, w⟩ := ends; exact w.elim
  · cases r with
    | error e => exact (show False from ht).elim
    | ok fl =>
      cases fl with
      | ret u => exact I.after ht
      | next => exact ht.elim
      | brk => exact ht.elim
      | cont => exact ht.elim
section
variable {X : Cx} {W : WX} {xa : Nat → Addr} {h : Hx} {xk : Nat} {fl : Flds}
theorem hres_read {K : PySem.W.Frag} {H : Hp} {β : Bt} {N : Nat} {σ : L2.St} {r : SRes} {Q : VK} {h1 h2 : Option Hx} {e1 : Option (Nat × Flds)} (q : Post K W xa (RD K) σ H β N (hres r) Q) : PostS K WF xa h2 e1 H β N r { nx := fun _ H' => Q .non H', rt := Q } := by
  cases r with
  | rt d M => exact q
  | nx ρ M => exact fun β' H' σ' e s => q β' H' .non e s.heap rfl
  | bk ρ M => exact q.elim
  | ct ρ M => exact q.elim
  | exn c fs ρ M => exact q.elim
  | stuck => exact q.elim
theorem d_hot {i ns : Nat} {x y qual : Str} {st : Stmt} {f : Addr} {fd : FuncData} {N : List Str} {p0 : Str} {p p' pos : Pos} {g : LX.Env → MH → SRes} (HX : HotX X (xa xk) h) (hi : h.i = some i) (hN : X.N[i]? = some y) (hv : Vis X.env.scope y) (hdy : nm y = true)
    (F : Fun X.K x qual st f fd) (S : FnScope N [p0] (defScope st)) (hb : Binds X.K fd [p0] []) (hd : X.A.depth < recursionLimit) (hg : Gl X x) (hm : X.mg x = some (.ref f)) (hk : PySem.W.keepIn X.K (.ref f) = true) (hdb : nm x = true) (hns : N.length = ns) (h0 : 0 < ns)
    (body : ∀ (cdv : Value) (s : Shared) (H : Hp) (oe : Obj) (pn : List (Addr × Obj)), HotX ((cxQ X N qual st f cdv s H h.a oe).suite h.a ((h.a, oe) :: [])) (xa xk) ⟨some 0, h.a, h.dx⟩ → PSs ((cxQ X N qual st f cdv s H h.a oe).suite h.a ((h.a, oe) :: [])) (defBody st) (tS X.K WF xa (some ⟨some 0, h.a, h.dx⟩) (some (xk, fl)) g)) :
    PE X (.Call (.Name x p) [.Name y p'] [] pos) (tD X.K W xa (some h) (some (xk, fl)) fun ρ M => hres (g (List.replicate ns none) M)) := by
  refine ⟨fun pins s σ H Q I q => wpAny_Call_Name_kw (ld_glob I hg hm ?_ (nm_ok hdb).1)⟩
  have ha : PA X [.Name y p'] (tCons (fun σ H Q => (∃ β ρ M, SR X.K (some h) (some (xk, fl)) H β M ρ σ) ∧ Q (.ref h.a) H) tNil) := pa_cons (pe_hot (xk := xk) (fl := fl) hi hN hv hdy) pa_nil rfl
  refine PySem.W.callWith_K (h₀ := X.base) I.ok.mod.kin hk (thn (ha.run pos pins s σ H (fun vs H1 => vs = [.ref h.a] ∧ H1 = H) I ?_) fun us t ⟨vs, H1, J, r, e1, e2⟩ => ⟨J.kIn, ?_⟩) rfl rfl
  · obtain ⟨β, ρ, M, sr, _⟩ := q
    exact ⟨⟨β, ρ, M, sr⟩, rfl, rfl⟩
  · subst e1 e2
    obtain rfl : us = [.ref h.a] := by
      cases r with
      | cons r1 r2 => cases r2; cases (show _ = Value.ref h.a from r1); rfl
    obtain ⟨Y, oe, pn, eX, hz, hf⟩ := HX.is
    have hh : X.A.handled = some (.ref h.a) := by rw [eX]; rfl
    refine call_q (oe := oe) F S hb hd (by rw [eX]; exact List.mem_cons_self) J fun cdv => ?_
    have hx2 : HotX ((cxQ X N qual st f cdv t H1 h.a oe).suite h.a ((h.a, oe) :: [])) (xa xk) ⟨some 0, h.a, h.dx⟩ := ⟨_, oe, [], rfl, hz, hf⟩
    rw [cxQ_suite hh]
    refine ⟨_, body cdv t H1 oe [] hx2, ?_⟩
    obtain ⟨β, ρ, M, sr, q⟩ := q
    refine ⟨β, List.replicate ns none, M, ⟨⟨?_, fun j d e => ?_⟩, sr.heap, ?_⟩, hres_read (h1 := none) q⟩
    · unfold L2.start
      rw [List.length_replicate, List.length_append, List.length_map, List.length_replicate, ← hns]
      simp only [List.length_cons, List.length_nil]
      omega
    · rw [List.getElem?_replicate] at e
      split at e <;> cases e
    · obtain ⟨_, fvs, b1, b2⟩ := sr.hot
      exact ⟨fun j e => by cases e; rfl, fvs, b1, b2⟩
end
end LX

set_option Elab.async false
set_option linter.all false
set_option maxRecDepth 100000
set_option maxHeartbeats 3200000
/-! LxSet: set(xs), xs a list of texts or a text. -/
namespace LX
open PySem L2 PyProof.Rows PySem.Spec PySem.Froz
def addS (acc : List Str) (x : Str) : List Str := if x ∈ acc then acc else x :: acc
def mets (xs : List Str) : List Str := xs.foldl addS []
theorem mets_snoc (xs : List Str) (x : Str) : mets (xs ++ [x]) = addS (mets xs) x := by
  unfold mets
  rw [List.foldl_append]
  rfl
theorem addS_le (acc : List Str) (x : Str) : (addS acc x).length ≤ acc.length + 1 := by
  unfold addS
  split
  · omega
  · exact Nat.le_refl _
theorem fold_le (xs : List Str) : ∀ acc : List Str, (xs.foldl addS acc).length ≤ acc.length + xs.length := by
  induction xs with
  | nil => exact fun acc => Nat.le_refl _
  | cons x xs ih =>
    intro acc
    have h1 := ih (addS acc x)
    have h2 := addS_le acc x
    rw [List.foldl_cons, List.length_cons]
    omega
theorem mets_le (xs : List Str) : (mets xs).length ≤ xs.length := by
  have h := fold_le xs []
  rw [List.length_nil, Nat.zero_add] at h
  exact h
theorem mets_take {xs : List Str} {i : Nat} {x : Str} (h : xs[i]? = some x) : mets (xs.take (i + 1)) = addS (mets (xs.take i)) x := by
  rw [List.take_succ, h]
  exact mets_snoc _ x
theorem addS_nd {acc : List Str} {x : Str} (h : acc.Nodup) : (addS acc x).Nodup := by
  unfold addS
  split
  · exact h
  · rename_i q
    exact List.nodup_cons.mpr ⟨q, h⟩
theorem mets_nd (xs : List Str) : (mets xs).Nodup := by
  have key : ∀ (xs acc : List Str), acc.Nodup → (xs.foldl addS acc).Nodup := by
    intro xs
    induction xs with
    | nil => exact fun acc h => h
    | cons x xs ih => exact fun acc h => ih _ (addS_nd h)
  exact key xs [] List.nodup_nil
/-- the payload of the set of the texts l, in the order in which the model walks it -/
structure GdS (P : Program) (w : World) (D : SD) (l : List Str) : Prop where
  ok : TxOk P w D l
  ris : Ris D.2.2.place.toList
  led : w.params.followText "set-order" = true ∨ D.2.2.led = true
section
variable {P : Program} {w : World} {D : SD} {l : List Str} {k : Str} {u : Tok}
theorem tail_ris {ep : Nat} {es : Array (Int × Value)} {t : SetTable} {b : Bool} (h : Ris t.place.toList) : Ris (tailTx ep es t b).2.2.place.toList := by
  unfold tailTx
  split
  · exact relayAll_ris _ _ _
  · exact h
theorem tail_led {ep : Nat} {es : Array (Int × Value)} {t : SetTable} {b : Bool} : (tailTx ep es t b).2.2.led = t.led := by
  unfold tailTx
  split
  · exact relayAll_led _ _ _
  · rfl
theorem GdS.add (G : GdS P w D l) : GdS P w (addTx (hashStr w k) (.str k u) D) (k :: l) := by
  have h1 := layNew_ris D.2.2 D.1 (hashStr w k) (.str k u) G.ris
  have h2 := layNew_led D.2.2 D.1 (hashStr w k) (.str k u)
  refine ⟨add_ok u G.ok, ?_, G.led.imp id fun q => ?_⟩
  · unfold addTx
    refine tail_ris ?_
    split
    · exact h1
    · exact h1
  · unfold addTx
    rw [tail_led]
    split
    · exact h2.trans q
    · exact h2.trans q
end
abbrev newO (w : World) : Obj := sObj "set" (#[], 0, .fresh 0 0 (!w.params.followText "set-order"))
theorem GdS.new (P : Program) (w : World) : GdS P w (#[], 0, .fresh 0 0 (!w.params.followText "set-order")) [] := by
  refine ⟨TxOk.nil rfl, List.Pairwise.nil, ?_⟩
  show _ ∨ (!w.params.followText "set-order") = true
  cases w.params.followText "set-order"
  · exact .inr rfl
  · exact .inl rfl
/-- the set of the texts xs -/
abbrev SetS (P : Program) (w : World) (h : Heap) (S : Addr) (xs : List Str) : Prop := ∃ D, h.get? S = some (sObj "set" D) ∧ GdS P w D (mets xs)
theorem setS_at {P : Program} {w : World} {h h' : Heap} {S : Addr} {xs : List Str} (z : SetS P w h S xs) (k : ∀ o, h.get? S = some o → h'.get? S = some o) : SetS P w h' S xs := by
  obtain ⟨D, ho, more⟩ := z
  exact ⟨D, k _ ho, more⟩
section
variable {P : Program} {w : World} {A : Around} {E : Value → Shared → Prop} {s : Shared}
/-- an add of a text that is there -/
theorem again_x {a : Addr} {D : SD} {l : List Str} {k : Str} {u : Tok} {Q : Bool → Shared → Prop} (ho : s.heap.get? a = some (sObj "set" D)) (F : TxOk P w D l) (hk : k ∈ l) (hb : l.length < scanBound)
    (h : Q false s) : wpAny (model P w) A (setAddHashed a (.str k u) (hashStr w k)) Q E s := by
  obtain ⟨es, ep, t⟩ := D
  have hd : (sObj "set" (es, ep, t)).data = .set es ep t := rfl
  have sz : es.size < scanBound := by
    have : es.size = l.length := F.sz
    omega
  obtain ⟨e, he, q⟩ := (F.mem k).mp hk
  unfold setAddHashed setAddHashedIn
  refine wpAny_holding (wpAny_bind (wpAny_setState_of ho hd F.fit ?_))
  dsimp only
  rw [byScan_of rfl sz F.el]
  simp only [↓reduceIte]
  unfold setAddByScan
  refine wpAny_bind (wpAny_bind (wpAny_rule (wpAny_bind (wpAny_setScan_of (knd := strKind P w) (k := k) (is_str k u) ho hd F.fit F.el ?_))))
  cases hf : List.findIdx? (fun e => (strKind P w).is k e.2) es.toList with
  | none =>
    have z := List.findIdx?_eq_none_iff.mp hf e he
    rw [q] at z
    cases z
  | some j => exact wpAny_pure (wpAny_pure h)
end
section
variable {P : Program} {w : World} {A : Around} {R : Result → Shared → Prop} {I : Addr} {fp wr : List Addr} {G : Array GenState → Array GenState → Prop} {n : Nat} {Pv : Nat → Value → Prop} {St : Nat → Shared → Prop}
theorem fill_strs (W : WalksS P w A.in1 I fp wr G n Pv St) (S : Addr) (out : S ∉ fp) (xs : List Str) (hn : xs.length = n) (few : n + 1 < scanBound) (val : ∀ i v, Pv i v → ∃ t, v = .str (xs.getD i Str.empty) t) :
    ∀ (todo i : Nat) (s : Shared), i + todo = n → St i s → SetS P w s.heap S (xs.take i) → (∀ s', Moved (S :: wr) G s s' → SetS P w s'.heap S xs → R (.ok (.ret .none)) s') → codeAny (model P w) A (.builtin "set.update.loop" ⟨[.ref S, .ref I], []⟩) R s := by
  have out2 : S ∉ wr := fun z => out (W.sub _ z)
  have wider : ∀ b ∈ wr, b ∈ S :: wr := fun b z => List.mem_cons_of_mem _ z
  intro todo
  induction todo with
  | zero =>
    intro i s e hs hS hR
    obtain rfl : i = n := e
    rw [← hn, List.take_length] at hS
    refine codeAny_builtin PyProof.Rows.F.entry_set_update_loop ?_
    rw [Around.under_plainId PyProof.Rows.F.plain_set_update_loop _]
    refine (wpAny_bind (W.done s _ _ hs fun t mv => ?_) : wpAny _ A.in1 (pyNext (.ref I) >>= _) _ _ s)
    show wpAny _ A.in1 (ret Value.none) _ _ t
    exact wpAny_pure (hR t (mv.mono wider) (setS_at hS fun o ho => mv.heap S _ out2 ho))
  | succ todo ih =>
    intro i s e hs hS hR
    have lt : i < n := by omega
    have gx : xs[i]? = some (xs.getD i Str.empty) := by
      rw [List.getD_eq_getElem?_getD, List.getElem?_eq_getElem (by omega)]
      rfl
    generalize hy : xs.getD i Str.empty = y at gx
    refine codeAny_builtin PyProof.Rows.F.entry_set_update_loop ?_
    rw [Around.under_plainId PyProof.Rows.F.plain_set_update_loop _]
    refine (wpAny_bind (W.item i s _ _ lt hs fun v t hv ht mv => ?_) : wpAny _ A.in1 (pyNext (.ref I) >>= _) _ _ s)
    obtain ⟨tk, rfl⟩ := val i v hv
    rw [hy]
    obtain ⟨D, hD, gd⟩ := setS_at hS fun o ho => mv.heap S _ out2 ho
    have room : (mets (xs.take i)).length + 1 < scanBound := by
      have h1 := mets_le (xs.take i)
      rw [List.length_take] at h1
      omega
    refine (wpAny_bind (wpAny_holding ?_) : wpAny _ A.in1 (holding [Value.str y tk] (setAdd S (.str y tk)) >>= _) _ _ t)
    unfold setAdd
    refine wpAny_holding (wpAny_bind ((PySem.strKind P w).pyHash (k := y) (strKind_is _ _ _ _) ?_))
    have sz : (mets (xs.take (i + 1))) = addS (mets (xs.take i)) y := mets_take gx
    by_cases hm : y ∈ mets (xs.take i)
    · have e1 : addS (mets (xs.take i)) y = mets (xs.take i) := if_pos hm
      have new2 : SetS P w t.heap S (xs.take (i + 1)) := ⟨D, hD, by rw [sz, e1]; exact gd⟩
      refine again_x (s := { t with toks := t.toks + 1 }) hD gd.ok hm (by omega) ?_
      refine wpAny_pure ⟨plainId_quiet PyProof.Rows.F.plain_set_update_loop _, ih (i + 1) _ (by omega) (W.frame _ t _ _ ht (Nat.le_succ _) fun b hb o z => z) new2 fun t2 mv2 fin => hR t2 (Moved.trans W.gtrans ((mv.mono wider).then_heap (Nat.le_succ _) fun b o hb z => z) mv2) fin⟩
    · have e1 : addS (mets (xs.take i)) y = y :: mets (xs.take i) := if_neg hm
      refine add_x (s := { t with toks := t.toks + 1 }) hD gd.ok hm room ?_
      have new2 : SetS P w (t.heap.update S (fun _ => sObj "set" (addTx (hashStr w y) (.str y tk) D))) S (xs.take (i + 1)) := ⟨_, get_upd _ hD rfl, by rw [sz, e1]; exact gd.add⟩
      have sb := Heap.SameBut.update t.heap S (fun _ => sObj "set" (addTx (hashStr w y) (.str y tk) D))
      refine wpAny_pure ⟨plainId_quiet PyProof.Rows.F.plain_set_update_loop _, ih (i + 1) _ (by omega) (W.frame _ t _ _ ht (Nat.le_succ _) fun b hb o z => (sb.2 b fun q => out (q ▸ hb)).trans z) new2 fun t2 mv2 fin => hR t2 (Moved.trans W.gtrans ((mv.mono wider).then_heap (Nat.le_succ _) fun b o hb z => (sb.2 b fun q => hb (q ▸ List.mem_cons_self)).trans z) mv2) fin⟩
end
section
variable {P : Program} {w : World} {A : Around} {E : Value → Shared → Prop} {s : Shared}
abbrev newH (w : World) (h : Heap) : Heap := h.push { cls := .type "set", dict := none, data := .set #[] 0 (.fresh 0 0 (!w.params.followText "set-order")) }
/-- set(v), by what filling it with v does -/
theorem set_of {v : Value} {xs : List Str} {Q : Value → Shared → Prop}
    (up : ∀ (A' : Around) (E' : Value → Shared → Prop) (Q' : Unit → Shared → Prop), A'.handled = A.handled → (∀ (h' : Heap) (tk : Nat), SetS P w h' s.heap.objs.size xs → (∀ b o, b < s.heap.objs.size → s.heap.get? b = some o → h'.get? b = some o) → Q' () { s with heap := h', toks := tk }) →
      wpAny (model P w) A' (Builtin.Frozenset.updateFrom "set.__init__" s.heap.objs.size v) Q' E' { s with heap := newH w s.heap })
    (fin : ∀ (h' : Heap) (tk : Nat), SetS P w h' s.heap.objs.size xs → (∀ b o, b < s.heap.objs.size → s.heap.get? b = some o → h'.get? b = some o) → Q (.ref s.heap.objs.size) { s with heap := h', toks := tk }) :
    wpAny (model P w) A (call (.type "set") [v]) Q E s := by
  have ⟨c, tl, hmro⟩ := PySem.F.called_set.mro
  have hmade := PySem.F.called_set.made
  have hsub := PySem.F.called_set.sub
  refine wpAny_call (codeAny_of_tree (?_ : wpAny _ _ (callAny (.type "set") _) _ _ _))
  refine wpAny_pure ⟨Code.quiet_builtin _ (by decide +kernel), codeAny_builtin PySem.F.entry_type_call ?_⟩
  rw [Around.under_plain (weight_type_call_type "set" [v] []) rfl]
  have hnt := PySem.F.called_set.notType
  have hcc := PySem.F.called_set.canCreate
  have htc := PySem.F.typeCall_set_1 v
  repeat (any_goals (first | assumption | wp_step))
  refine codeAny_mono (code_set_led1 v (E := E) (Q₁ := fun z t => z = .ref s.heap.objs.size ∧ t = { s with heap := newH w s.heap }) ⟨rfl, rfl⟩) fun r t hr => ?_
  match r, hr with
  | .error e, hr => exact hr
  | .ok .next, hr => exact hr.elim
  | .ok .brk, hr => exact hr.elim
  | .ok .cont, hr => exact hr.elim
  | .ok (.ret z), hr =>
    obtain ⟨rfl, rfl⟩ := hr
    have new := (Heap.get?_push_size s.heap rfl : (newH w s.heap).get? s.heap.objs.size = some (newO w))
    have hT : Shared.TypeIs { s with heap := newH w s.heap } (.ref s.heap.objs.size) "set" := ⟨_, new, rfl⟩
    have hil := PySem.F.called_set.init.lookup
    have hib := PySem.F.called_set.init.bind (.ref s.heap.objs.size)
    repeat (any_goals (first | assumption | wp_step))
    refine codeAny_mono (codeAny_call_builtin (R := wants (fun r t => r = .none ∧ ∃ h' tk, t = { s with heap := h', toks := tk } ∧ SetS P w h' s.heap.objs.size xs ∧ (∀ b o, b < s.heap.objs.size → s.heap.get? b = some o → h'.get? b = some o)) E) PySem.F.called_set.init.plain PySem.F.entry_set_init (check_set_init_1 hT ?_)) fun r2 t2 hr2 => ?_
    · unfold Builtin.«set.__init__» noKeywords
      generalize hU : Builtin.Frozenset.updateFrom = U
      wp_walk
      subst hU
      refine up _ _ _ (by simp) fun h' tk hS kept => ?_
      show wpAny _ _ (ret Value.none) _ _ _
      exact wpAny_pure ⟨rfl, h', tk, rfl, hS, kept⟩
    · match r2, hr2 with
      | .error e, hr2 => exact hr2
      | .ok .next, hr2 => exact hr2.elim
      | .ok .brk, hr2 => exact hr2.elim
      | .ok .cont, hr2 => exact hr2.elim
      | .ok (.ret r), hr2 =>
        obtain ⟨rfl, h', tk, rfl, hS, kept⟩ := hr2
        repeat (any_goals (first | assumption | wp_step))
        exact fin _ _ hS kept
end
end LX

set_option Elab.async false
set_option linter.all false
set_option maxRecDepth 100000
set_option maxHeartbeats 3200000
/-! LxSet: set(xs), xs a list of texts or a text; sorted of it. -/
namespace LX
open PySem L2 PyProof.Rows PySem.Spec PySem.Froz
section
variable {P : Program} {w : World} {A : Around} {E : Value → Shared → Prop} {s : Shared}
theorem up_list {l : Addr} {items : Array Value} {xs : List Str} {E' : Value → Shared → Prop} {Q' : Unit → Shared → Prop} {id : String} (calm : A.handled = none) (hl : s.heap.IsList l items) (hi : PyProof.Rows.StrsAre items.toList xs) (few : xs.length + 1 < scanBound)
    (fin : ∀ (h' : Heap) (tk : Nat), SetS P w h' s.heap.objs.size xs → (∀ b o, b < s.heap.objs.size → s.heap.get? b = some o → h'.get? b = some o) → Q' () { s with heap := h', toks := tk }) :
    wpAny (model P w) A (Builtin.Frozenset.updateFrom id s.heap.objs.size (.ref l)) Q' E' { s with heap := newH w s.heap } := by
  obtain ⟨ol, hol, hcl, nl, hdl⟩ := hl
  obtain ⟨ocls, odict, odata, oslots⟩ := ol
  simp only at hcl hdl
  subst hcl hdl
  have hol2 : (newH w s.heap).get? l = some { cls := .type "list", dict := odict, data := .seq items nl, slots := oslots } := Heap.get?_push_of_some _ hol
  have k1 := PySem.F.sub_list_set
  have k2 := PySem.F.sub_list_frozenset
  have k3 : (Value.type "list" == Value.type "dict") = false := by decide
  have hl1 : (newH w s.heap).IsList l items := ⟨_, hol2, rfl, nl, rfl⟩
  have hT : Shared.TypeIs { s with heap := newH w s.heap } (.ref l) "list" := hl1.typeIs
  unfold Builtin.Frozenset.updateFrom Builtin.Frozenset.isAnySet orM
  refine wpAny_bind (wpAny_bind (wpAny_isInstance (b := false) hT k1 ?_))
  refine wpAny_isInstance (b := false) hT k2 ?_
  refine wp_if_neg (by simp) ?_
  try refine wpAny_bind (wpAny_pure ?_)
  refine wpAny_bind (wpAny_typeOf hT ?_)
  refine wp_if_neg (by rw [k3]; simp) ?_
  try refine wpAny_bind (wpAny_pure ?_)
  refine wpAny_bind (wpAny_pyIter_list hl1 (wpAny_bind (wpAny_runValue ?_)))
  have hlS : l < s.heap.objs.size := Heap.lt_size hol
  have e1 : (newH w s.heap).objs.size = s.heap.objs.size + 1 := Heap.size_push ..
  have neI : l ≠ (newH w s.heap).objs.size := Nat.ne_of_lt (by rw [e1]; exact Nat.lt_succ_of_lt hlS)
  have out : s.heap.objs.size ∉ [(newH w s.heap).objs.size, l] := fun z => by
    simp only [List.mem_cons, List.not_mem_nil, or_false] at z
    rcases z with z | z
    · rw [e1] at z
      exact Nat.ne_of_lt (Nat.lt_succ_self _) z
    · exact Nat.ne_of_gt hlS z
  have hsz : xs.length = items.size := by rw [← StrsAre.len_eq hi, Array.length_toList]
  have val : ∀ (i : Nat) (v : Value), items[i]? = some v → ∃ t, v = .str (xs.getD i Str.empty) t := fun i v hv => SS.strs_at hi i v (by rw [Array.getElem?_toList]; exact hv)
  have new := (Heap.get?_push_size s.heap rfl : (newH w s.heap).get? s.heap.objs.size = some (newO w))
  refine fill_strs (A := A) ((Walks.list (A := A.in1) calm _ l neI items).toS) s.heap.objs.size out xs hsz (by rw [← hsz]; exact few) val items.size 0 _ (Nat.zero_add _) ?st ?empty ?after
  case st => exact ⟨⟨_, Heap.get?_push_size _ rfl, rfl, rfl⟩, hl1.push _⟩
  case empty => exact ⟨(#[], 0, .fresh 0 0 (!w.params.followText "set-order")), Heap.get?_push_of_some _ new, GdS.new P w⟩
  case after =>
    intro t mv hS
    obtain ⟨h', g', d', tk', os'⟩ := t
    obtain rfl : g' = s.gens := mv.gens
    obtain rfl : d' = s.drawn := mv.drawn
    obtain rfl : os' = s.os := mv.os
    show wpAny _ _ (pure ()) _ _ _
    refine wpAny_pure (fin h' tk' hS fun c o hc z => mv.heap c o (fun y => ?_) (Heap.get?_push_of_some _ (Heap.get?_push_of_some _ z)))
    simp only [List.mem_cons, List.not_mem_nil, or_false] at y
    rcases y with y | y
    · exact Nat.ne_of_lt hc y
    · rw [e1] at y
      exact Nat.ne_of_lt (Nat.lt_succ_of_lt hc) y
/-- the signs of a text as texts -/
def sgs (x : Str) : List Str := x.cps.toList.map fun c => ⟨#[c]⟩
theorem up_text {x : Str} {u : Tok} {E' : Value → Shared → Prop} {Q' : Unit → Shared → Prop} {id : String} (calm : A.handled = none) (few : x.cps.size + 1 < scanBound)
    (fin : ∀ (h' : Heap) (tk : Nat), SetS P w h' s.heap.objs.size (sgs x) → (∀ b o, b < s.heap.objs.size → s.heap.get? b = some o → h'.get? b = some o) → Q' () { s with heap := h', toks := tk }) :
    wpAny (model P w) A (Builtin.Frozenset.updateFrom id s.heap.objs.size (.str x u)) Q' E' { s with heap := newH w s.heap } := by
  have k3 : (Value.type "str" == Value.type "dict") = false := by decide
  unfold Builtin.Frozenset.updateFrom Builtin.Frozenset.isAnySet orM
  refine wpAny_bind (wpAny_bind (wpAny_isInstance (b := false) (typeIs_str _ _ _) PySem.F.sub_str_set ?_))
  refine wpAny_isInstance (b := false) (typeIs_str _ _ _) PySem.F.sub_str_frozenset ?_
  refine wp_if_neg (by simp) ?_
  try refine wpAny_bind (wpAny_pure ?_)
  try refine wpAny_bind (wpAny_typeOf (typeIs_str _ _ _) ?_)
  try refine wp_if_neg (by rw [k3]; simp) ?_
  try refine wpAny_bind (wpAny_pure ?_)
  refine wpAny_bind (wpAny_pyIter_str fun o St hW hst => wpAny_bind (wpAny_runValue ?_))
  have e1 : (newH w s.heap).objs.size = s.heap.objs.size + 1 := Heap.size_push ..
  have out : s.heap.objs.size ∉ [(newH w s.heap).objs.size] := fun z => by
    rw [List.mem_singleton, e1] at z
    exact Nat.ne_of_lt (Nat.lt_succ_self _) z
  have hsz : (sgs x).length = x.cps.size := by unfold sgs; rw [List.length_map, Array.length_toList]
  have val : ∀ (i : Nat) (v : Value), SignAt x i v → ∃ t, v = .str ((sgs x).getD i Str.empty) t := fun i v ⟨c, t, hc, e⟩ => by
    refine ⟨t, ?_⟩
    rw [e, List.getD_eq_getElem?_getD]
    unfold sgs
    rw [List.getElem?_map, Array.getElem?_toList, hc]
    rfl
  have new := (Heap.get?_push_size s.heap rfl : (newH w s.heap).get? s.heap.objs.size = some (newO w))
  refine fill_strs (A := A) ((hW A.in1 calm).toS) s.heap.objs.size out (sgs x) hsz few val x.cps.size 0 _ (Nat.zero_add _) hst ?empty ?after
  case empty => exact ⟨(#[], 0, .fresh 0 0 (!w.params.followText "set-order")), Heap.get?_push_of_some _ new, GdS.new P w⟩
  case after =>
    intro t mv hS
    obtain ⟨h', g', d', tk', os'⟩ := t
    obtain rfl : g' = s.gens := mv.gens
    obtain rfl : d' = s.drawn := mv.drawn
    obtain rfl : os' = s.os := mv.os
    show wpAny _ _ (pure ()) _ _ _
    refine wpAny_pure (fin h' tk' hS fun c o hc z => mv.heap c o (fun y => ?_) (Heap.get?_push_of_some _ (Heap.get?_push_of_some _ z)))
    simp only [List.mem_cons, List.not_mem_nil, or_false] at y
    rcases y with y | y
    · exact Nat.ne_of_lt hc y
    · rw [e1] at y
      exact Nat.ne_of_lt (Nat.lt_succ_of_lt hc) y
theorem set_strs {l : Addr} {items : Array Value} {xs : List Str} {Q : Value → Shared → Prop} (calm : A.handled = none) (hl : s.heap.IsList l items) (hi : PyProof.Rows.StrsAre items.toList xs) (few : xs.length + 1 < scanBound)
    (fin : ∀ (h' : Heap) (tk : Nat), SetS P w h' s.heap.objs.size xs → (∀ b o, b < s.heap.objs.size → s.heap.get? b = some o → h'.get? b = some o) → Q (.ref s.heap.objs.size) { s with heap := h', toks := tk }) :
    wpAny (model P w) A (call (.type "set") [.ref l]) Q E s := set_of (fun A' E' Q' c k => up_list (c.trans calm) hl hi few k) fin
theorem set_text {x : Str} {u : Tok} {Q : Value → Shared → Prop} (calm : A.handled = none) (few : x.cps.size + 1 < scanBound)
    (fin : ∀ (h' : Heap) (tk : Nat), SetS P w h' s.heap.objs.size (sgs x) → (∀ b o, b < s.heap.objs.size → s.heap.get? b = some o → h'.get? b = some o) → Q (.ref s.heap.objs.size) { s with heap := h', toks := tk }) :
    wpAny (model P w) A (call (.type "set") [.str x u]) Q E s := set_of (fun A' E' Q' c k => up_text (c.trans calm) few k) fin
end
end LX

set_option Elab.async false
set_option linter.all false
set_option maxRecDepth 100000
set_option maxHeartbeats 2000000
/-! LxSet3: len(set(xs)), sorted(set(xs)) by the IR. -/
namespace LX
open PySem L2 PyProof.Rows PySem.Spec PySem.Froz
def mkS (s : List Nat) : Str := ⟨s.toArray⟩
theorem mkS_inj {a b : List Nat} (h : mkS a = mkS b) : a = b := by
  have := congrArg (fun s : Str => s.cps.toList) h
  simpa [mkS] using this
theorem mets_dist (l : List (List Nat)) : mets (l.map mkS) = (dist l.reverse).map mkS := by
  have dm : ∀ {a : List Nat} {l : List (List Nat)}, a ∈ dist l ↔ a ∈ l := by
    intro a l
    induction l with
    | nil => exact Iff.rfl
    | cons b r ih =>
      unfold dist
      by_cases h : b ∈ r
      · rw [if_pos h, ih, List.mem_cons]
        exact ⟨.inr, fun z => z.elim (fun e => e ▸ h) id⟩
      · rw [if_neg h, List.mem_cons, List.mem_cons, ih]
  have key : ∀ r : List (List Nat), mets (r.reverse.map mkS) = (dist r).map mkS := by
    intro r
    induction r with
    | nil => rfl
    | cons a r ih =>
      rw [List.reverse_cons, List.map_append]
      show mets (r.reverse.map mkS ++ [mkS a]) = _
      rw [mets_snoc, ih, dist]
      unfold addS
      have hm : mkS a ∈ (dist r).map mkS ↔ a ∈ r := by
        rw [List.mem_map]
        constructor
        · rintro ⟨b, hb, e⟩
          have := mkS_inj e
          subst this
          exact dm.mp hb
        · intro h
          exact ⟨a, dm.mpr h, rfl⟩
      by_cases h : a ∈ r
      · rw [if_pos h, if_pos (hm.mpr h)]
      · rw [if_neg h, if_neg fun z => h (hm.mp z)]
        rfl
  have := key l.reverse
  rw [List.reverse_reverse] at this
  exact this
theorem strsAre_of' : ∀ {ys : List Str} {us : List Value}, Vals (ys.map V.str) us → PyProof.Rows.StrsAre us ys
  | [], _, .nil => .nil
  | y :: ys, _, .cons r t => by
    obtain ⟨k, rfl⟩ := r
    exact .cons y k (strsAre_of' t)
/-! ### the order -/
theorem lt1 (a b : Nat) : ltCps [a] [b] = decide (a < b) := by
  unfold ltCps
  have e : ltCps [] [] = false := rfl
  rw [e, Bool.and_false, Bool.or_false]
theorem rise1 : ∀ (cs : List Nat) (c : Nat), risingS (mkS [c]) (cs.map fun c => mkS [c]) = true → (∀ d ∈ cs, c ≤ d) ∧ cs.Pairwise (· ≤ ·)
  | [], c, _ => ⟨fun d h => (by cases h), .nil⟩
  | d :: cs, c, h => by
    have h2 : (!ltCps [d] [c] && risingS (mkS [d]) (cs.map fun c => mkS [c])) = true := h
    rw [lt1, Bool.and_eq_true, Bool.not_eq_true', decide_eq_false_iff_not] at h2
    obtain ⟨a, b⟩ := rise1 cs d h2.2
    refine ⟨fun x hx => ?_, List.pairwise_cons.mpr ⟨a, b⟩⟩
    rcases List.mem_cons.mp hx with rfl | hx
    · omega
    · have := a x hx
      omega
theorem sorted1 {cs : List Nat} (h : sortedS (cs.map fun c => mkS [c]) = true) : cs.Pairwise (· ≤ ·) := by
  cases cs with
  | nil => exact .nil
  | cons c cs =>
    obtain ⟨a, b⟩ := rise1 cs c h
    exact List.pairwise_cons.mpr ⟨a, b⟩
theorem oneL_all : ∀ {l : List (List Nat)}, oneL l = true → ∀ s ∈ l, ∃ c, s = [c]
  | [], _, s, h => by cases h
  | [c] :: r, h, s, hs => by
    rcases List.mem_cons.mp hs with rfl | hs
    · exact ⟨c, rfl⟩
    · exact oneL_all (l := r) h s hs
  | [] :: r, h, _, _ => by cases h
  | (a :: b :: t) :: r, h, _, _ => by cases h
theorem dist_sub {a : List Nat} : ∀ {l : List (List Nat)}, a ∈ dist l → a ∈ l
  | [], h => h
  | b :: r, h => by
    unfold dist at h
    by_cases q : b ∈ r
    · rw [if_pos q] at h
      exact List.mem_cons_of_mem _ (dist_sub h)
    · rw [if_neg q] at h
      rcases List.mem_cons.mp h with rfl | h
      · exact List.mem_cons_self
      · exact List.mem_cons_of_mem _ (dist_sub h)
theorem srt_of {l : List (List Nat)} {ys : List Str} (ho : oneL l = true) (hp : ys.Perm ((dist l).map mkS)) (hs : sortedS ys = true) : ys = (srtT l).map mkS := by
  have ho' : ∀ s ∈ dist l, ∃ c, s = [c] := fun s h => oneL_all ho s (dist_sub h)
  have hy : ∃ cs : List Nat, ys = cs.map fun c => mkS [c] := by
    have hall : ∀ y ∈ ys, ∃ c, y = mkS [c] := fun y h => by
      obtain ⟨s, q, rfl⟩ := List.mem_map.mp (hp.mem_iff.mp h)
      obtain ⟨c, rfl⟩ := ho' s q
      exact ⟨c, rfl⟩
    clear hp hs
    induction ys with
    | nil => exact ⟨[], rfl⟩
    | cons y ys ih =>
      obtain ⟨c, rfl⟩ := hall y List.mem_cons_self
      obtain ⟨cs, rfl⟩ := ih fun z h => hall z (List.mem_cons_of_mem _ h)
      exact ⟨c :: cs, rfl⟩
  obtain ⟨cs, rfl⟩ := hy
  have pw := sorted1 hs
  have p2 : (cs.map fun c : Nat => (c : Int)).Perm ((dist l).map fun s => ((s.headD 0 : Nat) : Int)) := by
    have q := hp.map fun y : Str => ((y.cps.toList.headD 0 : Nat) : Int)
    rw [List.map_map, List.map_map] at q
    have e1 : ((fun y : Str => ((y.cps.toList.headD 0 : Nat) : Int)) ∘ fun c => mkS [c]) = fun c : Nat => (c : Int) := rfl
    have e2 : ((fun y : Str => ((y.cps.toList.headD 0 : Nat) : Int)) ∘ mkS) = fun s : List Nat => ((s.headD 0 : Nat) : Int) := by
      funext s
      show ((s.toArray.toList.headD 0 : Nat) : Int) = _
      rw [List.toList_toArray]
    rw [e1, e2] at q
    exact q
  have e : (cs.map fun c : Nat => (c : Int)) = sortI ((dist l).map fun s => ((s.headD 0 : Nat) : Int)) := by
    refine sort_unique (p2.trans (sortI_perm _).symm) ?_ (sortI_sorted _)
    rw [List.pairwise_map]
    exact pw.imp fun h => Int.ofNat_le.mpr h
  unfold srtT
  rw [← e, List.map_map, List.map_map]
  exact List.map_congr_left fun c _ => by show mkS [c] = mkS [(c : Int).toNat]; rw [Int.toNat_natCast]
theorem perm_of {α : Type} [DecidableEq α] : ∀ {l ks : List α}, l.Nodup → (∀ x ∈ l, x ∈ ks) → ks.length = l.length → ks.Perm l
  | [], ks, _, _, hl => by
    obtain rfl := List.length_eq_zero_iff.mp hl
    exact .refl _
  | x :: l, ks, hn, hm, hl => by
    obtain ⟨n1, n2⟩ := List.nodup_cons.mp hn
    have hx := hm x List.mem_cons_self
    refine (List.perm_cons_erase hx).trans ((perm_of n2 (fun y hy => ?_) ?_).cons x)
    · exact (List.mem_erase_of_ne (fun z : y = x => n1 (by rw [← z]; exact hy))).mpr (hm y (List.mem_cons_of_mem _ hy))
    · rw [List.length_erase_of_mem hx, hl]
      rfl
section
variable {P : Program} {w : World} {A : Around} {E : Value → Shared → Prop} {s : Shared}
/-- sorted of a set of texts -/
theorem sort_setS {a : Addr} {xs : List Str} {Q : Value → Shared → Prop} (calm : A.handled = none) (hS : SetS P w s.heap a xs) (h64 : (mets xs).length < 64)
    (fin : ∀ (s2 : Shared) (p : Addr) (out : Array Value) (c : Nat) (ys : List Str), (∀ b o, s.heap.get? b = some o → s2.heap.get? b = some o) → s2.gens = s.gens → s2.os = s.os → s.heap.objs.size ≤ p →
      s2.heap.get? p = some (seqObj "list" out c) → StrsAre out.toList ys → ys.Perm (mets xs) → sortedS ys = true → Q (.ref p) s2) :
    wpAny (model P w) A (call (.builtin "sorted") [.ref a]) Q E s := by
  obtain ⟨⟨es, ep, t⟩, ho, G⟩ := hS
  have sz : es.size = (mets xs).length := G.ok.sz
  refine Calls.call_function_entry kind_sorted plain_sorted entry_sorted (args_sorted1 _) ?_
  unfold Builtin.«sorted»
  refine wpAny_bind (m := checkCount "sorted" 1 1 _) (wpAny_pure ?_)
  refine wpAny_bind (collect_set (A := A.in1) (es := es) (ep := ep) (t := t) calm ⟨_, ho, rfl, rfl⟩ G.ok.fit (by rw [sz]; unfold scanBound; omega) G.ris G.led fun s1 vs k1 hz g1 o1 pm => ?_)
  have hvl : vs.length = (mets xs).length := by rw [pm.length_eq, List.length_map, Array.length_toList]; exact sz
  have good : ∀ e ∈ es.toList, ∃ k tk, e.2 = Value.str k tk := fun e he => by
    obtain ⟨⟨k, q1, _⟩, _⟩ := G.ok.el e he
    obtain ⟨tk, q⟩ := Value.isStrOf_shape (x := k) (v := e.2) q1
    exact ⟨k, tk, q⟩
  have key : ∀ {us : List Value}, (∀ v ∈ us, ∃ k tk, v = Value.str k tk) → ∃ ks, StrsAre us ks := by
    intro us
    induction us with
    | nil => exact fun _ => ⟨[], .nil⟩
    | cons u us ih =>
      intro h
      obtain ⟨k, tk, rfl⟩ := h u List.mem_cons_self
      obtain ⟨ks, q⟩ := ih fun v hv => h v (List.mem_cons_of_mem _ hv)
      exact ⟨k :: ks, .cons k tk q⟩
  obtain ⟨ks, hK⟩ := key (us := vs) fun v hv => by
    obtain ⟨e, he, q⟩ := List.mem_map.mp (pm.mem_iff.mp hv)
    obtain ⟨k, tk, q2⟩ := good e he
    exact ⟨k, tk, by rw [← q]; exact q2⟩
  have memK : ∀ {us : List Value} {ks : List Str}, StrsAre us ks → ∀ {k : Str} {tk : Tok}, Value.str k tk ∈ us → k ∈ ks := by
    intro us ks h
    induction h with
    | nil => intro k tk h; cases h
    | cons x t' h ih =>
      intro k tk q
      rcases List.mem_cons.mp q with e | q
      · cases e
        exact List.mem_cons_self
      · exact List.mem_cons_of_mem _ (ih q)
  have pK : ks.Perm (mets xs) := perm_of (mets_nd xs) (fun k hk => by
    obtain ⟨e, he, q⟩ := (G.ok.mem k).mp hk
    obtain ⟨tk, q2⟩ := Value.isStrOf_shape (x := k) (v := e.2) q
    exact memK hK (tk := tk) (pm.mem_iff.mpr (List.mem_map.mpr ⟨e, he, q2⟩))) (by rw [← StrsAre.len_eq hK, hvl])
  refine wpAny_bind (wpAny_newList ?_ (by rw [hvl, sizeLine_eq]; omega))
  have hoL : (s1.heap.push (seqObj "list" vs.toArray 0)).get? s1.heap.objs.size = some (seqObj "list" vs.toArray 0) := Heap.get?_push_size _ rfl
  refine wpAny_bind (wpAny_holding (wpAny_call_entry slot_list_sort ⟨_, hoL, rfl⟩ entry_list_sort
    (list_sort_treeK strKind_oneLt hoL hK.keysOf (fun v₁ v₂ rest e => keyKind_strs (by rw [← e]; exact hK)) (by rw [hvl]; exact h64) fun st2 hp hs => ⟨_, rfl, ?_⟩) (args_list_sort _)))
  obtain ⟨ys, q1, q2, q3⟩ := sorted_out_str hK hp hs
  obtain ⟨c, hc⟩ := sortedHeap_at (vs := vs) (out := (arrOf st2).map (·.2)) hoL
  refine wpAny_pure ⟨_, rfl, fin _ s1.heap.objs.size _ c ys (fun b u e => ?_) g1 o1 hz hc q1 (q2.trans pK) q3⟩
  have q := k1 b u e
  have lt := Heap.lt_size q
  show (sortedHeap (s1.heap.push (seqObj "list" vs.toArray 0)) s1.heap.objs.size vs _).get? b = some u
  rw [sortedHeap_old (Nat.ne_of_lt lt) (by rw [size_push']; exact Nat.lt_succ_of_lt lt)]
  exact Heap.get?_push_of_some _ q
end
/-! ### by the IR -/
/-- what a set is made of -/
def TexV (K : PySem.W.Frag) (H : Hp) (x : V) (xs : List Str) : Prop := (∃ l, x = .ref l ∧ SqL K H l (xs.map V.str)) ∨ ∃ y : Str, x = .str y ∧ xs = sgs y
theorem Rep.texO {K : PySem.W.Frag} {H : Hp} {β : Bt} {M : MH} {d : D} {v : V} {l : List (List Nat)} (hp : HeapR K H β M) (r : Rep K H β M.length d v) (e : texD M d = some l) : TexV K H v (l.map mkS) := by
  by_cases hs : ∃ s, d = .str s
  · obtain ⟨s, rfl⟩ := hs
    have e' : (s.map fun c => [c]) = l := Option.some.inj e
    subst e'
    obtain ⟨_, rfl⟩ := r.strI
    refine .inr ⟨_, rfl, ?_⟩
    unfold sgs
    rw [List.map_map]
    rfl
  · have e2 : (tlOf M d).bind strsL = some l := by
      cases d with
      | str s => exact absurd ⟨s, rfl⟩ hs
      | _ => exact e
    obtain ⟨xs, e3, e4⟩ := Option.bind_eq_some_iff.mp e2
    obtain ⟨b, us, rfl, q2, r3⟩ := r.tlO hp e3
    have hv := r3.strsR e4
    subst hv
    exact .inl ⟨b, rfl, SqL.of q2⟩
section
variable {X : Cx} {W : WX} {xa : Nat → Addr} {hx : Option Hx} {η : Option (Nat × Flds)} {fa : LX.Env → MH → Res D} {a : Expr} {p p2 q pos : Pos}
/-- set(a), held by what comes behind -/
theorem run_set {pins : List (Addr × Obj)} {s : Shared} {σ : L2.St} {H : Hp} {x : V} {v : Value} {xs : List Str} {Q : Value → Shared → Prop} (hc : X.calm = true) (I : Inv X pins σ H s) (r : RelV x v) (t : TexV X.K H x xs) (few : xs.length < 1000)
    (fin : ∀ (h' : Heap) (tk : Nat), SetS X.prog X.w h' s.heap.objs.size xs → (∀ b o, s.heap.get? b = some o → h'.get? b = some o) → Q (.ref s.heap.objs.size) { s with heap := h', toks := tk }) :
    wpAny (model X.prog X.w) X.A (call (.type "set") [v]) Q X.xe s := by
  rcases t with ⟨l, rfl, hq⟩ | ⟨y, rfl, rfl⟩
  · cases r
    obtain ⟨its, r, pl, hz⟩ := I.list hq
    exact set_strs (I.ok.hd hc) pl.isList (by simpa using strsAre_of' r) (by unfold scanBound; omega) fun h' tk hS kept => fin h' tk hS fun b o e => kept b o (Heap.lt_size e) e
  · obtain ⟨u, rfl⟩ := r
    have few2 : y.cps.size < 1000 := by
      unfold sgs at few
      rw [List.length_map, Array.length_toList] at few
      exact few
    exact set_text (I.ok.hd hc) (by unfold scanBound; omega) fun h' tk hS kept => fin h' tk hS fun b o e => kept b o (Heap.lt_size e) e
theorem pe_lens (hc : X.calm = true) (hg : Gl X "len") (hm : X.mg "len" = none) (hg2 : Gl X "set") (hm2 : X.mg "set" = none) {ta : TE} (ha : PE X a ta) (na : starEach [a] X.env = (false, eval a X.env) :: starEach [] X.env) :
    PE X (.Call (.Name "len" p) [.Call (.Name "set" p2) [a] [] q] [] pos) (fun σ H Q => ta σ H fun x H1 => ∃ xs : List Str, TexV X.K H1 x xs ∧ xs.length < 1000 ∧ Q (.int (mets xs).length) H1) := by
  refine ⟨fun pins s σ H Q I h => Call_ (ld_blt I hg hm boot_len (PyProof.Rows.callWith_builtin1 (PyProof.Rows.args_cons ?_ rfl) rfl rfl))⟩
  refine Call_ (ld_blt I hg2 hm2 PyProof.Rows.boot_set (PyProof.Rows.callWith_type1 (PyProof.Rows.args_cons (thn (ha.run pins s σ H _ I h) fun v t ⟨x, H1, J, r1, xs, tx, few, q1⟩ => PyProof.Rows.args_nil ?_) na) na rfl))
  refine run_set hc J r1 tx few fun h' tk hS kept => PyProof.Rows.args_nil ?_
  obtain ⟨D, ho, G⟩ := hS
  have J2 : Inv X pins σ H1 { t with heap := h', toks := tk } := J.kept kept
  have few2 := mets_le xs
  exact call_len_set (o := sObj "set" D) ho ⟨rfl, rfl, rfl⟩ rfl G.ok.fit (by rw [G.ok.sz]; omega) ⟨.int (mets xs).length, H1, J2.tok _, ⟨_, by rw [G.ok.sz]⟩, q1⟩
theorem run_sorted {pins : List (Addr × Obj)} {s : Shared} {σ : L2.St} {H : Hp} {a : Addr} {xs : List Str} {Q : VK} (hc : X.calm = true) (J2 : Inv X pins σ H s) (hS : SetS X.prog X.w s.heap a xs) (h64 : (mets xs).length < 64)
    (q1 : ∀ (ys : List Str) (p : Addr), ys.Perm (mets xs) → sortedS ys = true → H p = none → Q (.ref p) (upd H p (.lst (ys.map V.str)))) :
    wpAny (model X.prog X.w) X.A (call (.builtin "sorted") [.ref a]) (EP X pins σ Q) X.xe s := by
  refine sort_setS (J2.ok.hd hc) hS h64 fun s2 p out c ys k g o hp hg hi pm so => ?_
  have hlen : (ys.map V.str).length ≤ sizeLine := by rw [List.length_map, pm.length_eq, sizeLine_eq]; omega
  have hn : H p = none := J2.hok.fresh hp
  have J3 : Inv X pins σ (upd H p (.lst (ys.map V.str))) { s with heap := s2.heap, gens := s2.gens, drawn := s2.drawn, toks := s2.toks } :=
    J2.call (ch := []) (Un.laid k hp hn) (J2.hok.laid k hp ⟨hlen, out.toList, c, vals_of_strs hi, hg⟩) (by rw [g]; exact J2.bare) (fun _ z => nomatch z)
  have e : s2 = { s with heap := s2.heap, gens := s2.gens, drawn := s2.drawn, toks := s2.toks } := by
    cases s2
    cases s
    cases o
    rfl
  rw [e]
  exact ⟨.ref p, _, J3, rfl, q1 ys p pm so hn⟩
theorem pe_srts (hc : X.calm = true) (hg : Gl X "sorted") (hm : X.mg "sorted" = none) (hg2 : Gl X "set") (hm2 : X.mg "set" = none) {ta : TE} (ha : PE X a ta) (na : starEach [a] X.env = (false, eval a X.env) :: starEach [] X.env) :
    PE X (.Call (.Name "sorted" p) [.Call (.Name "set" p2) [a] [] q] [] pos) (fun σ H Q => ta σ H fun x H1 => ∃ xs : List Str, TexV X.K H1 x xs ∧ xs.length < 1000 ∧ (mets xs).length < 64 ∧
      ∀ (ys : List Str) (p : Addr), ys.Perm (mets xs) → sortedS ys = true → H1 p = none → Q (.ref p) (upd H1 p (.lst (ys.map V.str)))) := by
  refine ⟨fun pins s σ H Q I h => Call_ (ld_blt I hg hm PyProof.Rows.boot_sorted (PyProof.Rows.callWith_builtin1 (PyProof.Rows.args_cons ?_ rfl) rfl rfl))⟩
  refine Call_ (ld_blt I hg2 hm2 PyProof.Rows.boot_set (PyProof.Rows.callWith_type1 (PyProof.Rows.args_cons (thn (ha.run pins s σ H _ I h) fun v t ⟨x, H1, J, r1, xs, tx, few, h64, q1⟩ => PyProof.Rows.args_nil ?_) na) na rfl))
  refine run_set hc J r1 tx few fun h' tk hS kept => PyProof.Rows.args_nil ?_
  exact run_sorted hc (s := { t with heap := h', toks := tk }) (J.kept kept) hS h64 q1
theorem d_lset (hc : X.calm = true) (hg : Gl X "len") (hm : X.mg "len" = none) (hg2 : Gl X "set") (hm2 : X.mg "set" = none) (ha : PE X a (tD X.K W xa hx η fa)) (hs : noStar a = true) :
    PE X (.Call (.Name "len" p) [.Call (.Name "set" p2) [a] [] q] [] pos) (tD X.K W xa hx η fun ρ M => (fa ρ M).bind fun x M => (ofO (texD M x) M).bind fun l M => if l.length < 1000 then .ok (.int (dist l.reverse).length) M else .stuck) :=
  PE.imp (pe_lens hc hg hm hg2 hm2 ha (star1 (noStar_ne hs))) fun σ H Q h => tR.seq h fun β ρ M x v H1 sr r1 h1 => by
    obtain ⟨l, e1, h1⟩ := h1.ofO
    obtain ⟨few, h1⟩ := Post.ite h1
    refine ⟨l.map mkS, r1.texO sr.heap e1, by rw [List.length_map]; exact few, ?_⟩
    rw [mets_dist, List.length_map]
    exact h1.okR sr.heap (show RD X.K H1 β M.length (D.int _) (V.int _) from rfl)
theorem Reps.ofStrs {K : PySem.W.Frag} {H : Hp} {β : Bt} {N : Nat} : ∀ {l : List (List Nat)}, (∀ s ∈ l, s.length ≤ lim) → Reps K H β N (l.map D.str) ((l.map mkS).map V.str)
  | [], _ => rfl
  | s :: l, h => by
    unfold Reps
    exact ⟨_, _, rfl, Rep.mkStr (h s List.mem_cons_self), Reps.ofStrs fun t q => h t (List.mem_cons_of_mem _ q)⟩
theorem d_srts (hc : X.calm = true) (hg : Gl X "sorted") (hm : X.mg "sorted" = none) (hg2 : Gl X "set") (hm2 : X.mg "set" = none) (ha : PE X a (tD X.K W xa hx η fa)) (hs : noStar a = true) :
    PE X (.Call (.Name "sorted" p) [.Call (.Name "set" p2) [a] [] q] [] pos) (tD X.K W xa hx η fun ρ M => (fa ρ M).bind fun x M => (ofO (texD M x) M).bind fun l M => if decide (l.length < 1000) && (oneL l && decide ((dist l.reverse).length < 64)) then .ok (.tl ((srtT l.reverse).map .str)) M else .stuck) :=
  PE.imp (pe_srts hc hg hm hg2 hm2 ha (star1 (noStar_ne hs))) fun σ H Q h => tR.seq h fun β ρ M x v H1 sr r1 h1 => by
    obtain ⟨l, e1, h1⟩ := h1.ofO
    obtain ⟨few, h1⟩ := Post.ite h1
    rw [Bool.and_eq_true, Bool.and_eq_true, decide_eq_true_eq, decide_eq_true_eq] at few
    obtain ⟨f1, f2, f3⟩ := few
    refine ⟨l.map mkS, r1.texO sr.heap e1, by rw [List.length_map]; exact f1, by rw [mets_dist, List.length_map]; exact f3, fun ys p pm so hn => ?_⟩
    rw [mets_dist] at pm
    have or : oneL l.reverse = true := by
      have all1 : ∀ {l : List (List Nat)}, (∀ s ∈ l, ∃ c, s = [c]) → oneL l = true := by
        intro l
        induction l with
        | nil => exact fun _ => rfl
        | cons s l ih =>
          intro h
          obtain ⟨c, rfl⟩ := h s List.mem_cons_self
          exact ih fun t q => h t (List.mem_cons_of_mem _ q)
      exact all1 fun s q => oneL_all f2 s (List.mem_reverse.mp q)
    have e := srt_of or pm so
    subst e
    have h2 : Post X.K W xa (RD X.K) σ H1 β M.length (newL false ((srtT l.reverse).map .str) M) Q := h1
    exact h2.newL sr.heap (Reps.ofStrs fun s q => by
      unfold srtT at q
      obtain ⟨i, _, rfl⟩ := List.mem_map.mp q
      exact (by decide : 1 ≤ lim)) p hn
end
end LX

set_option Elab.async false
set_option linter.all false
set_option maxRecDepth 100000
set_option maxHeartbeats 2000000
/-! LxTex: a text's methods; the empty dict. -/
namespace LX
open PySem L2 PyProof.Rows
def smN : Sm → Str
  | .split => "split" | .strip => "strip" | .starts => "startswith" | .ends => "endswith"
theorem splC_spl (c : Nat) : ∀ (l acc : List Nat), TL.spl [c] 0 acc l = splC c acc l
  | [], acc => by simp [TL.spl, splC]
  | x :: r, acc => by
    unfold TL.spl splC
    have e : TL.pre [c] (x :: r) = decide (x = c) := by
      show ((x :: r).take 1 == [c]) = _
      rw [Bool.eq_iff_iff]
      simp
    rw [e]
    by_cases h : x = c
    · rw [if_pos h, if_pos (decide_eq_true h)]
      show acc :: TL.spl [c] 0 [] r = _
      rw [splC_spl c r []]
    · rw [if_neg h, if_neg (by simp [h])]
      exact splC_spl c r _
theorem splC_le (c : Nat) : ∀ (l acc : List Nat), (∀ s ∈ splC c acc l, s.length ≤ acc.length + l.length)
  | [], acc, s, h => by
    have : s = acc := by simpa [splC] using h
    subst this
    simp
  | x :: r, acc, s, h => by
    unfold splC at h
    split at h
    · rcases List.mem_cons.mp h with rfl | h
      · omega
      · have := splC_le c r [] s h
        simp at this ⊢
        omega
    · have := splC_le c r _ s h
      simp at this ⊢
      omega
section
open PySem.Builtin PySem.Builtin.Str
theorem dw_tw (p : Nat → Bool) : ∀ l : List Nat, l.dropWhile p = l.drop (l.takeWhile p).length
  | [] => rfl
  | c :: r => by
    by_cases h : p c = true
    · rw [List.dropWhile_cons, if_pos h, List.takeWhile_cons, if_pos h, List.length_cons, List.drop_succ_cons]
      exact dw_tw p r
    · rw [List.dropWhile_cons, if_neg h, List.takeWhile_cons, if_neg h] <;> rfl
theorem strip_by (p : Nat → Bool) (s : List Nat) : Txt.stripBy p true true ⟨s.toArray⟩ = ⟨(((s.dropWhile p).reverse.dropWhile p).reverse).toArray⟩ := by
  have e : Txt.stripBy p true true ⟨s.toArray⟩ = stripped p true true ⟨s.toArray⟩ := by
    unfold Txt.stripBy
    split
    · rename_i h
      unfold stripSame at h
      rw [Bool.and_eq_true, beq_iff_eq, beq_iff_eq] at h
      unfold stripped
      rw [h.2, h.1]
      unfold Builtin.Str.strSub
      simp [Str.length]
    · rfl
  rw [e]
  have hlo : stripLo p true ⟨s.toArray⟩ = (s.takeWhile p).length := by
    unfold stripLo
    rw [if_pos rfl]
  have hl : (s.takeWhile p).length ≤ s.length := (List.takeWhile_sublist p).length_le
  unfold stripped
  have hhi : stripHi p true ⟨s.toArray⟩ (s.takeWhile p).length = s.length - ((s.drop (s.takeWhile p).length).reverse.takeWhile p).length := by
    unfold stripHi
    rw [if_pos rfl]
    simp [Str.length]
  rw [hlo, hhi, dw_tw p s, dw_tw p (List.reverse _)]
  generalize (s.takeWhile p).length = n at hl ⊢
  generalize ((s.drop n).reverse.takeWhile p).length = k
  unfold Builtin.Str.strSub
  congr 1
  apply Array.ext'
  simp only [Array.toList_extract, List.extract_eq_take_drop]
  rw [List.drop_reverse, List.reverse_reverse, List.length_drop]
  congr 1
  omega
theorem strip_S (s t : List Nat) : Txt.stripChars ⟨s.toArray⟩ ⟨t.toArray⟩ = ⟨(stripL t s).toArray⟩ := by
  have hg : (⟨t.toArray⟩ : Str).cps.contains = fun c => decide (c ∈ t) := by
    funext c
    show t.toArray.contains c = _
    rw [Bool.eq_iff_iff]
    simp
  unfold Txt.stripChars
  rw [hg, strip_by]
  rfl
theorem stripL_le (t s : List Nat) : (stripL t s).length ≤ s.length := by
  unfold stripL
  rw [List.length_reverse, dw_tw, List.length_drop, List.length_reverse, dw_tw, List.length_drop]
  omega
theorem starts_S (s t : List Nat) : Txt.startswith ⟨s.toArray⟩ ⟨t.toArray⟩ = (s.take t.length == t) := by
  unfold Txt.startswith Builtin.Str.subAt Str.length
  rw [Bool.eq_iff_iff]
  simp only [Bool.and_eq_true, decide_eq_true_eq, beq_iff_eq, List.size_toArray, List.extract_toArray, List.extract_eq_drop_take, Array.mk.injEq]
  simp
  intro h
  have := congrArg List.length h
  simp at this
  omega
theorem ends_S (s t : List Nat) : Txt.endswith ⟨s.toArray⟩ ⟨t.toArray⟩ = (decide (t.length ≤ s.length) && s.drop (s.length - t.length) == t) := by
  unfold Txt.endswith Builtin.Str.subAt Str.length
  rw [Bool.eq_iff_iff]
  simp only [Bool.and_eq_true, decide_eq_true_eq, beq_iff_eq, List.size_toArray]
  constructor
  · intro ⟨h1, h2⟩
    refine ⟨by omega, ?_⟩
    have h3 := congrArg Array.toList h2
    simp only [Array.toList_extract, List.extract_eq_take_drop] at h3
    rw [List.take_of_length_le (by rw [List.length_drop]; omega)] at h3
    exact h3
  · intro ⟨h1, h2⟩
    refine ⟨by omega, ?_⟩
    apply Array.ext'
    simp only [Array.toList_extract, List.extract_eq_take_drop]
    rw [List.take_of_length_le (by rw [List.length_drop]; omega)]
    exact h2
end
section
variable {X : Cx} {W : WX} {xa : Nat → Addr} {hx : Option Hx} {η : Option (Nat × Flds)} {fa fb : LX.Env → MH → Res D} {o e : Expr} {apos cpos pos : Pos}
theorem d_sm {m : Bool} {k : Sm} (ho : PE X o (tD X.K W xa hx η fa)) (he : PE X e (tD X.K W xa hx η fb)) (hb : okBase o = true) (hl : (apos.endLine == cpos.line) = true) (hs : noStar e = true) :
    PE X (.Call (.Attribute o (smN k) apos) [e] [] cpos) (tD X.K W xa hx η fun ρ M => (fa ρ M).bind fun x M => if isStrD x then (fb ρ M).bind fun y M => smD m k M x y else .stuck) := by
  cases k with
  | split =>
    exact PE.imp (pe_m1 PySem.F.slot_str_split PySem.F.type_str_split mt_split ho he (star1 (noStar_ne hs)) (base_of hb) hl) fun σ H Q h => tR.seq h fun β ρ M x v H1 sr r1 h1 => by
      obtain ⟨hi, h1⟩ := Post.ite h1
      cases x with
      | str s =>
        obtain ⟨hz, rfl⟩ := r1.strI
        refine ⟨⟨_, rfl⟩, tR.seq2 sr h1 fun β2 M2 y u H2 sr2 mo _ r2 h2 => ?_⟩
        cases y with
        | str t =>
          obtain ⟨_, rfl⟩ := r2.strI
          match t, r2, h2 with
          | [], _, h2 => exact h2.elim
          | [c], _, h2 =>
            have h3 : Post X.K W xa (RD X.K) σ H2 β2 M2.length (if (decide (c < 256) && decide (s.length + 2 ≤ lim)) = true then newL m ((splC c [] s).map .str) M2 else .stuck) Q := h2
            obtain ⟨hc, h3⟩ := Post.ite h3
            rw [Bool.and_eq_true, decide_eq_true_eq, decide_eq_true_eq] at hc
            refine ⟨_, _, rfl, rfl, rfl, by rw [len_str_arr, lim_eq]; exact hc.2, fun p hp => ?_⟩
            have es : Txt.split (⟨s.toArray⟩ : Str) ⟨[c].toArray⟩ = (splC c [] s).map mkS := by
              have q := SX.split_S (a := s) (b := [c]) (by simp) (by simp [hc.1])
              rw [splC_spl] at q
              exact q
            rw [es]
            exact h3.newL sr2.heap (Reps.ofStrs fun t q => by
              have := splC_le c s [] t q
              simp at this
              omega) p hp
          | _ :: _ :: _, _, h2 => exact h2.elim
        | _ => exact h2.elim
      | _ => cases hi
  | strip =>
    exact PE.imp (pe_m1 PySem.F.slot_str_strip PySem.F.type_str_strip mt_stripChars ho he (star1 (noStar_ne hs)) (base_of hb) hl) fun σ H Q h => tR.seq h fun β ρ M x v H1 sr r1 h1 => by
      obtain ⟨hi, h1⟩ := Post.ite h1
      cases x with
      | str s =>
        obtain ⟨hz, rfl⟩ := r1.strI
        refine ⟨⟨_, rfl⟩, tR.seq2 sr h1 fun β2 M2 y u H2 sr2 mo _ r2 h2 => ?_⟩
        cases y with
        | str t =>
          obtain ⟨_, rfl⟩ := r2.strI
          refine ⟨_, _, rfl, rfl, by rw [len_str_arr, lim_eq]; exact hz, ?_⟩
          rw [strip_S]
          exact h2.okv sr2.heap (.mkStr (Nat.le_trans (stripL_le t s) hz))
        | _ => exact h2.elim
      | _ => cases hi
  | starts =>
    exact PE.imp (pe_m1 PySem.F.slot_str_startswith PySem.F.type_str_startswith mt_startswith ho he (star1 (noStar_ne hs)) (base_of hb) hl) fun σ H Q h => tR.seq h fun β ρ M x v H1 sr r1 h1 => by
      obtain ⟨hi, h1⟩ := Post.ite h1
      cases x with
      | str s =>
        obtain ⟨hz, rfl⟩ := r1.strI
        refine ⟨⟨_, rfl⟩, tR.seq2 sr h1 fun β2 M2 y u H2 sr2 mo _ r2 h2 => ?_⟩
        cases y with
        | str t =>
          obtain ⟨_, rfl⟩ := r2.strI
          refine ⟨_, _, rfl, rfl, ?_⟩
          rw [starts_S]
          exact h2.okv sr2.heap (show RD X.K H2 β2 M2.length (D.bl _) (V.bl _) from rfl)
        | _ => exact h2.elim
      | _ => cases hi
  | ends =>
    exact PE.imp (pe_m1 PySem.F.slot_str_endswith PySem.F.type_str_endswith mt_endswith ho he (star1 (noStar_ne hs)) (base_of hb) hl) fun σ H Q h => tR.seq h fun β ρ M x v H1 sr r1 h1 => by
      obtain ⟨hi, h1⟩ := Post.ite h1
      cases x with
      | str s =>
        obtain ⟨hz, rfl⟩ := r1.strI
        refine ⟨⟨_, rfl⟩, tR.seq2 sr h1 fun β2 M2 y u H2 sr2 mo _ r2 h2 => ?_⟩
        cases y with
        | str t =>
          obtain ⟨_, rfl⟩ := r2.strI
          refine ⟨_, _, rfl, rfl, ?_⟩
          rw [ends_S]
          exact h2.okv sr2.heap (show RD X.K H2 β2 M2.length (D.bl _) (V.bl _) from rfl)
        | _ => exact h2.elim
      | _ => cases hi
theorem d_edic : PE X (.Dict [] [] pos) (tD X.K W xa hx η fun _ M => .ok .edic M) :=
  PE.imp pe_dnewK fun σ H Q h p hp => by
    obtain ⟨β, ρ, M, sr, h⟩ := h
    exact Post.edic sr.heap h p hp
theorem d_bad : PE X e (tD X.K W xa hx η fun _ _ => .stuck) :=
  ⟨fun pins s σ H Q I h => by
    obtain ⟨β, ρ, M, sr, h⟩ := h
    exact h.elim⟩
end
end LX

set_option Elab.async false
set_option linter.all false
set_option maxRecDepth 100000
set_option maxHeartbeats 2000000
/-! LxTab: the module's constants; its tables with text keys, read by get. -/
namespace LX
open PySem L2 PyProof.Rows
/-- how a constant of the module stands -/
def ConR (K : PySem.W.Frag) (u : Value) (d : D) : Prop := ∃ v, RelV v u ∧ ∀ H β N, Rep K H β N d v
/-- a table's entries -/
def TEs (w : World) (K : PySem.W.Frag) : List DictEntry → List (List Nat × D) → Prop
  | [], [] => True
  | e :: es, (s, d) :: r => ((∃ t, e.key = .str ⟨s.toArray⟩ t) ∧ e.hash = PyData.keyHash w.params ⟨s.toArray⟩ ∧ ConR K e.val d) ∧ TEs w K es r
  | _, _ => False
def TabR (w : World) (K : PySem.W.Frag) (a : Addr) (kvs : List (List Nat × D)) : Prop := ∃ es n, K.lookup a = some ⟨.type "dict", none, .dict es n, #[]⟩ ∧ (a == sysModules) = false ∧ TEs w K es.toList kvs
theorem tes_lit {w : World} {K : PySem.W.Frag} : ∀ {es : List DictEntry} {kvs : List (List Nat × D)}, TEs w K es kvs → PySem.W.KeysLit w.params es
  | [], [], _ => trivial
  | e :: es, (s, d) :: r, ⟨⟨⟨t, h1⟩, h2, _⟩, h4⟩ => ⟨⟨_, t, h1, h2⟩, tes_lit h4⟩
theorem te_nil {w : World} {K : PySem.W.Frag} : TEs w K [] [] := trivial
theorem te_cons {w : World} {K : PySem.W.Frag} {z : Str} {s : List Nat} {t : Tok} {u : Value} {d : D} {es : List DictEntry} {kvs : List (List Nat × D)} (h : z = ⟨s.toArray⟩) (c : ConR K u d) (r : TEs w K es kvs) : TEs w K (⟨PyData.keyHash w.params z, .str z t, u⟩ :: es) ((s, d) :: kvs) := by
  subst h
  exact ⟨⟨⟨t, rfl⟩, rfl, c⟩, r⟩
theorem arr_beq (s z : List Nat) : ((⟨s.toArray⟩ : Str) == ⟨z.toArray⟩) = (s == z) := by
  rw [Bool.eq_iff_iff, beq_iff_eq, beq_iff_eq]
  constructor
  · intro h
    injection h with h
    simpa using h
  · rintro rfl
    rfl
theorem tes_find {w : World} {K : PySem.W.Frag} (z : List Nat) : ∀ {es : List DictEntry} {kvs : List (List Nat × D)}, TEs w K es kvs → match kvs.lookup z with
    | some d => ∃ u, (es.find? fun e => Value.isStrOf ⟨z.toArray⟩ e.key).map (·.val) = some u ∧ ConR K u d
    | none => (es.find? fun e => Value.isStrOf ⟨z.toArray⟩ e.key).map (·.val) = none
  | [], [], _ => rfl
  | e :: es, (s, d) :: r, ⟨⟨⟨t, h1⟩, h2, h3⟩, h4⟩ => by
    have ih := tes_find z h4
    have hk : Value.isStrOf ⟨z.toArray⟩ e.key = (s == z) := by
      rw [h1]
      show ((⟨s.toArray⟩ : Str) == ⟨z.toArray⟩) = _
      exact arr_beq s z
    by_cases h : s = z
    · subst h
      rw [beq_self_eq_true] at hk
      have e1 : List.lookup s ((s, d) :: r) = some d := by simp [List.lookup]
      rw [e1]
      refine ⟨e.val, ?_, h3⟩
      rw [List.find?_cons, hk]
      rfl
    · have hb : (s == z) = false := beq_eq_false_iff_ne.mpr h
      have e1 : List.lookup z ((s, d) :: r) = List.lookup z r := by
        have hb2 : (z == s) = false := beq_eq_false_iff_ne.mpr fun q => h q.symm
        simp only [List.lookup, hb2]
      rw [hb] at hk
      rw [e1, List.find?_cons, hk]
      exact ih
section
variable {X : Cx} {W : WX} {xa : Nat → Addr} {hx : Option Hx} {η : Option (Nat × Flds)} {fa fb : LX.Env → MH → Res D} {e f : Expr} {apos cpos np : Pos}
theorem d_tget {x : Str} {p : Addr} {kvs : List (List Nat × D)} (hg : Gl X x) (hm : X.mg x = some (.ref p)) (hd : (x == ("__debug__" : Str)) = false) (R : TabR X.w X.K p kvs) (he : PE X e (tD X.K W xa hx η fa)) (hf : PE X f (tD X.K W xa hx η fb))
    (hl : (apos.endLine == cpos.line) = true) (hst : [e, f].all noStar = true) :
    PE X (.Call (.Attribute (.Name x np) "get" apos) [e, f] [] cpos) (tD X.K W xa hx η fun ρ M => (fa ρ M).bind fun y M => if isStrD y then (fb ρ M).bind fun z M => .ok (tgetD kvs y z) M else .stuck) := by
  obtain ⟨es, n, hk, lo, ht⟩ := R
  refine ⟨fun pins s σ H Q I h => ?_⟩
  have hst2 := hst
  simp only [List.all_cons, List.all_nil, Bool.and_true, Bool.and_eq_true] at hst2
  have trees : backTo cpos (starEach [e, f] X.env) = [(false, eval e X.env), (false, eval f X.env)] := by
    rw [star1 (noStar_ne hst2.1), star1 (noStar_ne hst2.2)]
    rfl
  have mo : ∀ {H : Hp} {s : Shared}, Inv X pins σ H s → s.heap.MapOf (PySem.strKind X.prog X.w) p (fun k => findBy Value.isStrOf es k) := fun I => PySem.W.mapOf_K (prog := X.prog) I.kIn hk (tes_lit ht)
  refine wpAny_Call_method (base_of (o := .Name x np) rfl) (few_of hst (by show 2 < 29; omega)) hl PySem.F.plainAttrs_dict PySem.F.slot_dict_get PySem.F.type_dict_get (thn ((pe_glob (v := .ref p) hg hm rfl hd).run pins s σ H (fun v H1 => v = .ref p ∧ tD X.K W xa hx η (fun ρ M => (fa ρ M).bind fun y M => if isStrD y then (fb ρ M).bind fun z M => .ok (tgetD kvs y z) M else .stuck) σ H1 Q) I ⟨rfl, h⟩) fun u s1 ⟨v, H1, I1, rx, ev, q1⟩ => ?_)
  subst ev
  obtain rfl : u = Value.ref p := rx
  refine ⟨(mo I1).typeIs, fun b q => ?_, ?_⟩
  · cases q
    exact ⟨_, I1.kIn _ _ hk, rfl⟩
  rw [trees]
  have q1' : tR RD X.K W xa hx η fa σ H1 (fun (v : V) H1 => tR RD X.K W xa hx η fb σ H1 fun v2 H2 => ∃ z : List Nat, v = V.str ⟨z.toArray⟩ ∧ (∀ o : Option D, kvs.lookup z = o → match o with
      | some d => ∀ w, (∀ H β N, Rep X.K H β N d w) → Q w H2
      | none => Q v2 H2)) := tR.seq q1 (fun β ρ M y v H1 sr r1 h1 => by
    obtain ⟨hi, h1⟩ := Post.ite h1
    cases y with
    | str z =>
      obtain ⟨hz, rfl⟩ := r1.strI
      refine tR.seq2 sr h1 fun β2 M2 d2 v2 H2 sr2 mo _ r2 h2 => ⟨z, rfl, fun o ho => ?_⟩
      have h3 : Post X.K W xa (RD X.K) σ H2 β2 M2.length (.ok ((kvs.lookup z).getD d2) M2) Q := h2
      rw [ho] at h3
      cases o with
      | none => exact h3.okv sr2.heap r2
      | some d => exact fun w hw => h3.okv sr2.heap (hw H2 β2 M2.length)
    | _ => cases hi)
  refine Calls.callWith_builtin rfl (Calls.evalArgs_plain (Calls.spliced_cons (thn (he.run pins s1 σ H1 _ I1 q1') fun iv s2 ⟨y, H2, I2, ry, q2⟩ =>
    Calls.spliced_cons (thn (hf.run pins s2 σ H2 _ I2 q2) fun fv s3 ⟨z, H3, I3, rz, zz, ey, q3⟩ => Calls.spliced_nil ?_))))
  subst ey
  obtain ⟨t, rfl⟩ := ry
  refine call_meetsIn PySem.F.slot_dict_get (mo I3).typeIs PySem.F.entry_dict_get (PySem.F.args_dict_get_3 _ _ _) (meets_dict_get_default (PySem.strKind X.prog X.w) p (PySem.strKind_is X.prog X.w _ t) lo fv) ⟨_, mo I3, ?_⟩
  have fe : findBy Value.isStrOf es (⟨zz.toArray⟩ : Str) = (es.toList.find? fun e => Value.isStrOf ⟨zz.toArray⟩ e.key).map (·.val) := by
    unfold findBy
    rw [← Array.find?_toList]
  have tf := tes_find (z := zz) ht
  rw [fe]
  cases o : kvs.lookup zz with
  | none =>
    rw [o] at tf
    have tf' : (es.toList.find? fun e => Value.isStrOf ⟨zz.toArray⟩ e.key).map (·.val) = none := tf
    rw [tf']
    exact ⟨z, H3, I3.tok _, rz, q3 _ o⟩
  | some d =>
    rw [o] at tf
    obtain ⟨u, e1, v, e2, e3⟩ := tf
    rw [e1]
    exact ⟨v, H3, I3.tok _, e2, q3 _ o v e3⟩
end
end LX

set_option Elab.async false
set_option linter.all false
set_option maxRecDepth 100000
set_option maxHeartbeats 2000000
/-! LxChk: does an IR tell what a text says? A check that runs. -/
namespace LX
open PySem L2 PyProof.Rows
/-- the module's names: its defs, its exception classes, its constants, the names that it leaves to the built-ins -/
structure Tb where
  fns : List Str
  xcs : List Str
  cons : List (Str × D)
  bls : List Str
  flds : List Str
  ini : List Nat
  qns : List Str
  kbs : List (Nat × List Str × List Nat)
  tabs : List (Str × List (List Nat × D)) := []
/-- where a text stands: the slots' names, the scope; hot: in an except suite (the error's slot); df: in a def's body, in no suite -/
structure Sc where
  N : List Str
  sc : Scope
  own : Scope
  hot : Option (Option Nat)
  df : Bool
def glB (sc : Scope) (x : Str) : Bool := match sc.names.lookup x with
  | some .globalImplicit => true
  | _ => false
def Tb.blt (T : Tb) (L : Sc) (x : Str) : Bool := glB L.sc x && decide (x ∈ T.bls)
def slotC (L : Sc) (x : Str) (i : Nat) : Bool := decide (L.N[i]? = some x) && (visB L.sc x && nm x)
def locC (L : Sc) (x : Str) (i : Nat) : Bool := decide (L.N[i]? = some x) && locB L.own x && (match L.hot with
  | some (some j) => decide (i ≠ j)
  | _ => true)
def lclC (L : Sc) (x : Str) (i : Nat) : Bool := decide (L.N[i]? = some x) && decide (L.sc.names.lookup x = some .local) && (match L.hot with
  | some (some j) => decide (i ≠ j)
  | _ => true)
def constC : Const → D → Bool
  | .int i, .int j => decide (i = j)
  | .str s, .str l => decide (s = ⟨l.toArray⟩) && decide (l.length ≤ lim)
  | .none, .non => true
  | .bool a, .bl b => decide (a = b)
  | _, _ => false
def isSet : Expr → Bool
  | .Set _ _ _ => true
  | _ => false
def noSlice : Expr → Bool
  | .Slice _ _ _ _ => false
  | _ => true
/-- a test by its value -/
def plainT : Expr → Bool
  | .UnaryOp _ _ _ => false
  | .BoolOp _ _ _ => false
  | .IfExp _ _ _ _ => false
  | .Compare _ _ _ _ => false
  | _ => true
def ownP (N : List Str) (own : List Nat) : List (Str × Nat) := own.map fun i => (N.getD i "", i)
def chkG (L : Sc) (t : Expr) (g : G) : Bool :=
  match g, t with
  | .one i, .Name x _ => locC L x i
  | .tup is, .Tuple ts _ _ => decide (is.length = ts.length) && (is.zip ts).all fun p => match p.2 with
    | .Name x _ => locC L x p.1
    | _ => false
  | _, _ => false
def kindsC (T : Tb) (L : Sc) (ks : List Kind) (ns : List Expr) : Bool := decide (ns.length = ks.length) && (ks.zip ns).all fun p => match p.2 with
  | .Name x _ => decide (x = Str.ofString (kdN p.1)) && T.blt L x
  | _ => false
def clsC (T : Tb) (L : Sc) (cs : List Nat) (ns : List Expr) : Bool := decide (ns.length = cs.length) && (cs.zip ns).all fun p => match p.2 with
  | .Name y _ => decide (T.xcs[p.1]? = some y) && glB L.sc y && nm y
  | _ => false
def conC (T : Tb) (L : Sc) (e : Expr) (d : D) : Bool :=
  match e with
  | .Constant c _ _ => constC c d
  | .Name x _ => glB L.sc x && nm x && (match T.cons.lookup x with
    | some d' => D.same d' d
    | none => false)
  | _ => false
def sameT : List (List Nat × D) → List (List Nat × D) → Bool
  | [], [] => true
  | (s, d) :: r, (s', d') :: r' => decide (s = s') && (D.same d d' && sameT r r')
  | _, _ => false
mutual
def chkE (T : Tb) : Nat → Sc → Expr → E → Bool
  | 0, _, _, _ => false
  | n + 1, L, e, ir => match ir with
    | .var i => (match e with
      | .Name x _ => slotC L x i
      | _ => false)
    | .con d => conC T L e d
    | .tup es => (match e with
      | .Tuple xs _ _ => chkEs T n L xs es
      | _ => false)
    | .lst _ es => (match e with
      | .List xs _ => chkEs T n L xs es
      | _ => false)
    | .bin _ o a b => (match e with
      | .BinOp x o' y _ => decide (o = o') && (chkE T n L x a && chkE T n L y b)
      | _ => false)
    | .neg a => (match e with
      | .UnaryOp .USub x _ => chkE T n L x a
      | _ => false)
    | .cmp o a b => (match e with
      | .Compare x [o'] [y] _ => decide (o = o') && (!isSet y && (chkE T n L x a && chkE T n L y b))
      | _ => false)
    | .chain o p a b c => (match e with
      | .Compare x [o', p'] [y, z] _ => decide (o = o') && (decide (p = p') && (!isSet z && (chkE T n L x a && (chkE T n L y b && chkE T n L z c))))
      | _ => false)
    | .and a b => (match e with
      | .BoolOp .And [x, y] _ => chkE T n L x a && chkE T n L y b
      | .BoolOp .And (x :: y :: z :: r) p => chkE T n L x a && chkE T n L (.BoolOp .And (y :: z :: r) p) b
      | _ => false)
    | .or a b => (match e with
      | .BoolOp .Or [x, y] _ => chkE T n L x a && chkE T n L y b
      | .BoolOp .Or (x :: y :: z :: r) p => chkE T n L x a && chkE T n L (.BoolOp .Or (y :: z :: r) p) b
      | _ => false)
    | .not a => (match e with
      | .UnaryOp .Not x _ => chkE T n L x a
      | _ => false)
    | .ite c a b => (match e with
      | .IfExp t x y _ => chkT T n L t c && (chkE T n L x a && chkE T n L y b)
      | _ => false)
    | .truth _ => false
    | .call f es => (match e with
      | .Call (.Name x _) (a :: as) [] _ => decide (T.fns[f]? = some x) && (glB L.sc x && (nm x && (L.hot.isNone && ((a :: as).all noStar && chkEs T n L (a :: as) es))))
      | _ => false)
    | .fn _ b es => (match e with
      | .Call (.Name x _) (a :: as) [] _ => decide (x = bfN b) && (T.blt L x && (L.hot.isNone && ((a :: as).all noStar && chkEs T n L (a :: as) es)))
      | _ => false)
    | .meth t o es => (match e with
      | .Call (.Attribute q m ap) [] [] cp => decide (t = .pop0) && (decide (m = mtN .pop0) && (okBase q && ((ap.endLine == cp.line) && (chkE T n L q o && es.isEmpty))))
      | .Call (.Attribute q m ap) (a :: as) [] cp => !decide (t = .pop0) && (decide (m = mtN t) && (okBase q && ((ap.endLine == cp.line) && (chkE T n L q o && ((a :: as).all noStar && (decide ((a :: as).length < 29) && chkEs T n L (a :: as) es))))))
      | _ => false)
    | .ix a i => (match e with
      | .Subscript x y _ => noSlice y && (chkE T n L x a && chkE T n L y i)
      | _ => false)
    | .cut _ a lo hi => (match e with
      | .Subscript x (.Slice l u none _) _ => chkE T n L x a && (chkO T n L l lo && chkO T n L u hi)
      | _ => false)
    | .rev _ a => (match e with
      | .Subscript x (.Slice none none (some (.UnaryOp .USub (.Constant (.int 1) _ _) _)) _) _ => chkE T n L x a
      | _ => false)
    | .lc _ own tg it c e' => (match e with
      | .ListComp elt [⟨tgE, iter, ifs, 0⟩] scope _ => L.hot.isNone && (!isSet iter && (chkI T n L tgE iter it && (blkC L.N L.sc scope (ownP L.N own) && (decide (∀ i ∈ slots tg, i ∈ own) &&
          (chkG ⟨L.N, relS scope L.sc, scope, none, false⟩ tgE tg && (chkE T n ⟨L.N, relS scope L.sc, scope, none, false⟩ elt e' && (match ifs, c with
            | [], none => true
            | [t], some te => chkT T n ⟨L.N, relS scope L.sc, scope, none, false⟩ t te
            | _, _ => false)))))))
      | _ => false)
    | .lrng _ a => (match e with
      | .Call (.Name f _) [.Call (.Name g _) [x] [] _] [] _ => decide (f = ("list" : Str)) && (decide (g = ("range" : Str)) && (T.blt L f && (T.blt L g && (L.hot.isNone && (noStar x && chkE T n L x a)))))
      | _ => false)
    | .lower a => (match e with
      | .Call (.Attribute q m ap) [] [] cp => decide (m = ("lower" : Str)) && (okBase q && ((ap.endLine == cp.line) && chkE T n L q a))
      | _ => false)
    | .lset a => (match e with
      | .Call (.Name f _) [.Call (.Name g _) [x] [] _] [] _ => decide (f = ("len" : Str)) && (decide (g = ("set" : Str)) && (T.blt L f && (T.blt L g && (L.hot.isNone && (noStar x && chkE T n L x a)))))
      | _ => false)
    | .stp a lo => (match e with
      | .Subscript x (.Slice l none (some (.Constant (.int 2) _ _)) _) _ => chkE T n L x a && chkO T n L l lo
      | _ => false)
    | .srts a => (match e with
      | .Call (.Name f _) [.Call (.Name g _) [x] [] _] [] _ => decide (f = ("sorted" : Str)) && (decide (g = ("set" : Str)) && (T.blt L f && (T.blt L g && (L.hot.isNone && (noStar x && chkE T n L x a)))))
      | _ => false)
    | .hcall q => (match e with
      | .Call (.Name x _) [.Name y _] [] _ => decide (T.qns[q]? = some x) && (glB L.sc x && (nm x && (match L.hot with
        | some (some i) => slotC L y i
        | _ => false)))
      | _ => false)
    | .callk f m pm es => (match e with
      | .Call (.Name x _) [] kws _ => decide (T.fns[f]? = some x) && (glB L.sc x && (nm x && (L.hot.isNone && (decide (m = kws.length) && (kws.all (fun k => k.arg.isSome) && (decide ((f, kws.filterMap (·.arg), pm) ∈ T.kbs) && chkEs T n L (kws.map (·.value)) es))))))
      | _ => false)
    | .sm _ k a b => (match e with
      | .Call (.Attribute q m ap) [x] [] cp => decide (m = smN k) && (okBase q && ((ap.endLine == cp.line) && (noStar x && (chkE T n L q a && chkE T n L x b))))
      | _ => false)
    | .call0 f => (match e with
      | .Call (.Name x _) [] [] _ => decide (T.fns[f]? = some x) && (glB L.sc x && (nm x && L.hot.isNone))
      | _ => false)
    | .edic => (match e with
      | .Dict [] [] _ => true
      | _ => false)
    | .bad => (match e with
      | .Call _ _ _ _ => true
      | _ => false)
    | .tget kvs a b => (match e with
      | .Call (.Attribute (.Name x _) m ap) [y, z] [] cp => decide (m = ("get" : Str)) && (glB L.sc x && (nm x && ((match T.tabs.lookup x with
        | some kvs' => sameT kvs' kvs
        | none => false) && ((ap.endLine == cp.line) && (noStar y && (noStar z && (chkE T n L y a && chkE T n L z b)))))))
      | _ => false)
    | .rng1 _ => false
    | .rng2 _ _ => false
    | .rng3 _ _ _ => false
    | .zip _ _ => false
    | .isi ks a => (match e with
      | .Call (.Name f _) [x, .Name y q] [] _ => decide (f = ("isinstance" : Str)) && (T.blt L f && (noStar x && (chkE T n L x a && (match ks with
        | [k] => kindsC T L [k] [.Name y q]
        | _ => false))))
      | .Call (.Name f _) [x, .Tuple ns _ _] [] _ => decide (f = ("isinstance" : Str)) && (T.blt L f && (noStar x && (chkE T n L x a && (kindsC T L ks ns && decide (ks.length < 1000)))))
      | _ => false)
    | .xat f => (match e with
      | .Attribute (.Name x _) f' _ => decide (f = f') && decide (f ∈ T.flds) && (match L.hot with
        | some (some i) => slotC L x i
        | _ => false)
      | _ => false)
    | .xisi cs => (match e with
      | .Call (.Name f _) [.Name x _, .Name y q] [] _ => decide (f = ("isinstance" : Str)) && (T.blt L f && ((match L.hot with
        | some (some i) => slotC L x i
        | _ => false) && (match cs with
        | [j] => clsC T L [j] [.Name y q]
        | _ => false)))
      | .Call (.Name f _) [.Name x _, .Tuple ns _ _] [] _ => decide (f = ("isinstance" : Str)) && (T.blt L f && ((match L.hot with
        | some (some i) => slotC L x i
        | _ => false) && (clsC T L cs ns && decide (cs.length < 1000))))
      | _ => false)
def chkEs (T : Tb) : Nat → Sc → List Expr → List E → Bool
  | 0, _, _, _ => false
  | n + 1, L, es, irs => match es, irs with
    | [], [] => true
    | e :: es, ir :: irs => noStar e && (chkE T n L e ir && chkEs T n L es irs)
    | _, _ => false
def chkO (T : Tb) : Nat → Sc → Option Expr → Option E → Bool
  | 0, _, _, _ => false
  | n + 1, L, e, ir => match e, ir with
    | none, none => true
    | some e, some ir => chkE T n L e ir
    | _, _ => false
def chkT (T : Tb) : Nat → Sc → Expr → E → Bool
  | 0, _, _, _ => false
  | n + 1, L, e, ir => match e with
    | .Compare x ops ys _ => (match ops, ys, ir with
      | [o'], [y], .cmp o a b => decide (o = o') && (!isSet y && (chkE T n L x a && chkE T n L y b))
      | [o', p'], [y, z], .chain o p a b c => decide (o = o') && (decide (p = p') && (!isSet z && (chkE T n L x a && (chkE T n L y b && chkE T n L z c))))
      | _, _, _ => false)
    | .BoolOp .And xs p => (match xs, ir with
      | [x], ir => chkT T n L x ir
      | x :: y :: r, .and a b => chkT T n L x a && chkT T n L (.BoolOp .And (y :: r) p) b
      | _, _ => false)
    | .BoolOp .Or xs p => (match xs, ir with
      | [x], ir => chkT T n L x ir
      | x :: y :: r, .or a b => chkT T n L x a && chkT T n L (.BoolOp .Or (y :: r) p) b
      | _, _ => false)
    | .UnaryOp .Not x _ => (match ir with
      | .not a => chkT T n L x a
      | _ => false)
    | e => (match ir with
      | .truth a => plainT e && chkE T n L e a
      | ir => plainT e && chkE T n L e ir)
def chkI (T : Tb) : Nat → Sc → Expr → Expr → E → Bool
  | 0, _, _, _, _ => false
  | n + 1, L, tg, e, ir => match ir with
    | .zip a b => (match tg, e with
      | .Tuple _ _ _, .Call (.Name f _) [x, y] [] _ => decide (f = ("zip" : Str)) && (T.blt L f && (noStar x && (noStar y && (chkE T n L x a && chkE T n L y b))))
      | _, _ => false)
    | .rng1 a => (match e with
      | .Call (.Name f _) [x] [] _ => decide (f = ("range" : Str)) && (T.blt L f && (noStar x && chkE T n L x a))
      | _ => false)
    | .rng2 a b => (match e with
      | .Call (.Name f _) [x, y] [] _ => decide (f = ("range" : Str)) && (T.blt L f && (noStar x && (noStar y && (chkE T n L x a && chkE T n L y b))))
      | _ => false)
    | .rng3 a b d => (match e with
      | .Call (.Name f _) [x, y, z] [] _ => decide (f = ("range" : Str)) && (T.blt L f && (noStar x && (noStar y && (noStar z && (chkE T n L x a && (chkE T n L y b && chkE T n L z d))))))
      | _ => false)
    | ir => chkE T n L e ir
end
def isLc : Expr → Bool
  | .ListComp _ _ _ _ => true
  | .SetComp _ _ _ _ => true
  | .DictComp _ _ _ _ _ => true
  | _ => false
def isTup : Expr → Bool
  | .Tuple _ _ _ => true
  | .List _ _ => true
  | _ => false
/-- which stores a, b = x, y makes -/
def swapB (ts vs : List Expr) (sc : Scope) : Option (Option (List Str)) :=
  if !(ts.length == 2 || ts.length == 3) || vs.length != ts.length then some none else
  if vs.any (fun | .Starred .. => true | _ => false) then some none else
  let line := (ts.head?.map (·.pos.line)).getD 0
  let names := ts.filterMap fun
    | .Name id pos => if sc.names.lookup id == some .local && pos.line == line then some id else none
    | _ => none
  if names.length != ts.length || names.eraseDups.length != names.length then some none else
  if vs.all (foldedForSure 8) then some none else
  if vs.all (constantsAlone 8) then none else some (some names)
/-- a name that stands for a list that is built on the spot, on the name's own line -/
def setLcC (L : Sc) (y : Str) (i : Nat) (scope : Scope) (py pos : Pos) : Bool :=
  lclC L y i && ((py.line == pos.line) && !(scope.names.any fun (n, k) => n == y && (k == .local || k == .cell)))
mutual
def chkS (T : Tb) : Nat → Sc → Stmt → S → Bool
  | 0, _, _, _ => false
  | n + 1, L, st, ir => match ir with
    | .expr e => (match st with
      | .Expr x _ => !isLc x && chkE T n L x e
      | _ => false)
    | .ret e => (match st with
      | .Return (some x) _ => chkE T n L x e
      | _ => false)
    | .retN => (match st with
      | .Return none _ => true
      | _ => false)
    | .pass => (match st with
      | .Pass _ => true
      | _ => false)
    | .brk => (match st with
      | .Break _ => true
      | _ => false)
    | .cont => (match st with
      | .Continue _ => true
      | _ => false)
    | .set i e => (match st with
      | .Assign [.Name y py] (.ListComp elt gs scope pos) sp => (setLcC L y i scope py pos || (locC L y i && (!(py.line == pos.line) || decide (L.sc.names.lookup y = some .cell)))) && chkE T n L (.ListComp elt gs scope pos) e
      | .Assign [.Name y _] x _ => locC L y i && (!isLc x && chkE T n L x e)
      | _ => false)
    | .unp is e => (match st with
      | .Assign [.Tuple ts k p] x _ => L.hot.isNone && (chkG L (.Tuple ts k p) (.tup is) && (!isLc x && ((match x with
        | .Tuple vs _ _ => decide (swapB ts vs L.sc = some none)
        | _ => true) && chkE T n L x e)))
      | _ => false)
    | .unl is e => (match st with
      | .Assign [.Tuple ts k p] x _ => L.hot.isNone && (chkG L (.Tuple ts k p) (.tup is) && (!isLc x && ((match x with
        | .Tuple vs _ _ => decide (swapB ts vs L.sc = some none)
        | _ => true) && chkE T n L x e)))
      | _ => false)
    | .par i j a b => (match st with
      | .Assign [.Tuple [.Name x px, .Name y py] _ _] (.Tuple [u, v] _ _) _ => L.hot.isNone && (lclC L x i && (lclC L y j && (decide (i ≠ j) && (noStar u && (noStar v && (decide (swapB [.Name x px, .Name y py] [u, v] L.sc = some (some [x, y])) && (chkE T n L u a && chkE T n L v b)))))))
      | _ => false)
    | .par3 i j l a b c => (match st with
      | .Assign [.Tuple [.Name x px, .Name y py, .Name z pz] _ _] (.Tuple [u, v, w] _ _) _ => L.hot.isNone && (lclC L x i && (lclC L y j && (lclC L z l && (decide (i ≠ j) && (decide (i ≠ l) && (decide (j ≠ l) && (noStar u && (noStar v && (noStar w &&
          (decide (swapB [.Name x px, .Name y py, .Name z pz] [u, v, w] L.sc = some (some [x, y, z])) && (chkE T n L u a && (chkE T n L v b && chkE T n L w c))))))))))))
      | _ => false)
    | .put o i e => (match st with
      | .Assign [.Subscript q j _] x _ => noSlice j && (!isLc x && (chkE T n L x e && (chkE T n L q o && chkE T n L j i)))
      | _ => false)
    | .aug i o e => (match st with
      | .AugAssign (.Name y _) o' x _ => decide (o = o') && (locC L y i && chkE T n L x e)
      | _ => false)
    | .ite c a b => (match st with
      | .If t xs ys _ => chkT T n L t c && (chkSs T n L xs a && chkSs T n L ys b)
      | _ => false)
    | .wh c b => (match st with
      | .While t xs [] _ => L.df && (chkT T n L t c && chkSs T n L xs b)
      | _ => false)
    | .for tg it b => (match st with
      | .For tgE iter xs [] _ => L.df && (!isSet iter && (chkI T n L tgE iter it && (chkG L tgE tg && chkSs T n L xs b)))
      | _ => false)
    | .raise k es => (match st with
      | .Raise (some (.Call (.Name x _) (a :: as) [] _)) none _ => L.hot.isNone && (decide (T.xcs[k]? = some x ∧ k ∈ T.ini) && (glB L.sc x && (nm x && ((a :: as).all noStar && chkEs T n L (a :: as) es))))
      | _ => false)
    | .try b hs => (match st with
      | .Try xs [.ExceptHandler (some (.Name y _)) (some z) (s0 :: ss) _] [] [] _ => (match hs with
        | [(j, some i, hb)] => L.df && (lclC L z i && (decide (T.xcs[j]? = some y) && (glB L.sc y && (nm y && (chkSs T n L xs b && chkSs T n ⟨L.N, L.sc, L.own, some (some i), false⟩ (s0 :: ss) hb)))))
        | _ => false)
      | .Try xs (h0 :: hds) [] [] _ => L.df && (chkSs T n L xs b && chkHs T n L (h0 :: hds) hs)
      | _ => false)
def chkSs (T : Tb) : Nat → Sc → List Stmt → List S → Bool
  | 0, _, _, _ => false
  | n + 1, L, ss, irs => match ss, irs with
    | [], [] => true
    | s :: ss, ir :: irs => chkS T n L s ir && chkSs T n L ss irs
    | _, _ => false
def chkHs (T : Tb) : Nat → Sc → List ExceptHandler → List (Nat × Option Nat × List S) → Bool
  | 0, _, _, _ => false
  | n + 1, L, hds, hs => match hds, hs with
    | [], [] => true
    | .ExceptHandler (some (.Name y _)) none (s0 :: ss) _ :: hds, (j, none, b) :: hs => decide (T.xcs[j]? = some y) && (glB L.sc y && (nm y && (chkSs T n ⟨L.N, L.sc, L.own, some none, false⟩ (s0 :: ss) b && chkHs T n L hds hs)))
    | .ExceptHandler (some (.Name y _)) (some z) (s0 :: ss) _ :: hds, (j, some i, b) :: hs => lclC L z i && (decide (T.xcs[j]? = some y) && (glB L.sc y && (nm y && (chkSs T n ⟨L.N, L.sc, L.own, some (some i), false⟩ (s0 :: ss) b && chkHs T n L hds hs))))
    | _, _ => false
end
end LX

set_option Elab.async false
set_option linter.all false
set_option maxRecDepth 100000
set_option maxHeartbeats 4000000
/-! LxSnd: what is checked holds. -/
namespace LX
open PySem L2 PyProof.Rows
/-- what the module's top has written, told by the tables -/
structure Tab (w : World) (K : PySem.W.Frag) (mg : Str → Option Value) (pg : Pg) (T : Tb) (xa fa : Nat → Addr) : Prop where
  fn : ∀ f x, T.fns[f]? = some x → mg x = some (.ref (fa f)) ∧ PySem.W.keepIn K (.ref (fa f)) = true ∧ f < pg.fns.length
  xc : ∀ k y, T.xcs[k]? = some y → mg y = some (.ref (xa k)) ∧ k < pg.xcs.length
  bl : ∀ x ∈ T.bls, mg x = none
  co : ∀ x d, T.cons.lookup x = some d → ∃ v u, mg x = some u ∧ RelV v u ∧ ∀ H β N, Rep K H β N d v
  ta : ∀ x kvs, T.tabs.lookup x = some kvs → ∃ p, mg x = some (.ref p) ∧ TabR w K p kvs
  no : ∀ f ∈ T.flds, ∀ k, k < pg.live → PySem.W.findIn K (.ref (xa k)) f = some none
  xt : XTab K xa pg
  ini : ∀ k ∈ T.ini, ∀ x, pg.xcs[k]? = some x → XIni K (xa k) x.flds ∧ x.flds.Nodup
  qn : ∀ (q : Nat) (x : Str), T.qns[q]? = some x → ∃ (f : Addr) (t : Nat × List S) (fd : FuncData) (qual : Str) (st : Stmt) (N : List Str) (p0 : Str) (k : Nat), pg.qns[q]? = some t ∧ mg x = some (.ref f) ∧ PySem.W.keepIn K (.ref f) = true ∧ Fun K x qual st f fd ∧ FnScope N [p0] (defScope st) ∧ Binds K fd [p0] [] ∧ N.length = t.1 ∧ 0 < t.1 ∧ chkSs T k ⟨N, defScope st, defScope st, some (some 0), false⟩ (defBody st) t.2 = true
/-- a def keeps its promise -/
def FnG (P : Program) (w : World) (K : PySem.W.Frag) (mg : Str → Option Value) (base : Heap) (T : Tb) (xa fa : Nat → Addr) (d f : Nat) (t : Fn) (F : List D → MH → Res D) : Prop :=
  ∃ fd ps, FnOk P w K mg base (L2.CX P w) (d + 2) (fa f) fd ps (spF K xa t.np F) ∧ Binds K fd ps [] ∧ (∀ q ∈ T.kbs, q.1 = f → KBq K fd ps q.2.1 q.2.2) ∧ ∀ ds M, F ds M ≠ .stuck → ds.length = t.np
structure Gd (pg : Pg) (T : Tb) (xa fa : Nat → Addr) (n : Nat) (c : Cf) (L : Sc) (hx : Option Hx) (W : WX) (X : Cx) : Prop where
  hN : X.N = L.N
  hsc : X.env.scope = L.sc
  nd : X.N.Nodup
  kd : X.env.scope.kind = .function
  un : X.A.units + 65 < cLine
  fnl : ∀ x, Loc L.own x → Loc X.env.scope x ∧ (X.fn x = true ∨ X.env.scope.names.lookup x = some .local)
  tk : Takes X W
  tab : Tab X.w X.K X.mg pg T xa fa
  cool : L.hot = none → hx = none ∧ c.x = none ∧ X.calm = true ∧ Room (c.d + 2) X.A
  fns : ∀ m, m ≤ n → ∀ d, d ≤ c.d → ∀ f t, pg.fns[f]? = some t → FnG X.prog X.w X.K X.mg X.base T xa fa d f t ((sys pg m).f d f)
  rq : X.A.depth + 3 * c.d + 8 < recursionLimit ∧ X.A.units + 16 * c.d + 100 < cLine
  hotF : ∀ i, L.hot = some i → ∃ h k fl, hx = some h ∧ c.x = some (k, fl) ∧ k < pg.live ∧ h.i = i ∧ HotX X (xa k) h
  dfF : L.df = true → PassesOwn (model X.prog X.w) X.A X.env X.xe ∧ X.stack = X.env :: X.outer ∧ X.env.frame = some X.env.locals ∧ L.hot = none
theorem Gd.down {pg : Pg} {T : Tb} {xa fa : Nat → Addr} {n m : Nat} {c : Cf} {L : Sc} {hx : Option Hx} {W : WX} {X : Cx} (G : Gd pg T xa fa n c L hx W X) (h : m ≤ n) : Gd pg T xa fa m c L hx W X :=
  ⟨G.hN, G.hsc, G.nd, G.kd, G.un, G.fnl, G.tk, G.tab, G.cool, fun k hk => G.fns k (Nat.le_trans hk h), G.rq, G.hotF, G.dfF⟩
theorem takesF {X : Cx} : Takes X WF := fun _ _ x => by
  obtain ⟨_, _, _, _, _, _, _, _, _, _, _, _, _, _, _, _, z⟩ := x
  exact z.elim
theorem map_lookup {α : Type} (g : Str → α → α) (x : Str) : ∀ l : List (Str × α), (l.map fun p => (p.1, g p.1 p.2)).lookup x = (l.lookup x).map (g x)
  | [] => rfl
  | (y, a) :: l => by
    show List.lookup x ((y, g y a) :: l.map _) = _
    by_cases q : x = y
    · subst q
      simp [List.lookup]
    · have e : (x == y) = false := by simpa using q
      simp only [List.lookup, e]
      exact map_lookup g x l
theorem rel_lookup (env : PySem.Env) (scope : Scope) (x : Str) : (PySem.relabel scope env).names.lookup x = (scope.names.lookup x).map fun k => if (k == NameKind.free && env.scope.kind == .function && env.kindOf x == some .cell) then NameKind.cell else k := by
  have e : (PySem.relabel scope env).names = scope.names.map fun p => (p.1, (fun n k => if (k == NameKind.free && env.scope.kind == .function && env.kindOf n == some .cell) then NameKind.cell else k) p.1 p.2) := by
    unfold PySem.relabel
    refine List.map_congr_left fun p _ => ?_
    obtain ⟨n, k⟩ := p
    dsimp only
    split <;> rfl
  rw [e]
  exact map_lookup (fun n k => if (k == NameKind.free && env.scope.kind == .function && env.kindOf n == some .cell) then NameKind.cell else k) x _
/-- a comprehension's block -/
theorem Gd.blk {pg : Pg} {T : Tb} {xa fa : Nat → Addr} {n : Nat} {c : Cf} {L : Sc} {hx : Option Hx} {W : WX} {X : Cx} (G : Gd pg T xa fa n c L hx W X) (hc : L.hot = none) {scope : Scope} (hk : scope.kind = .function) (s : Shared) (H : Hp) (C : Addr) (cl : List (Str × Addr)) (fp : List Addr) :
    Gd pg T xa fa n c ⟨L.N, relS scope L.sc, scope, none, false⟩ none WF (X.blk s H scope (compEnvC scope cl C X.env) fp) where
  hN := G.hN
  hsc := by
    rw [← G.hsc]
    rfl
  nd := G.nd
  kd := hk
  un := G.un
  fnl := fun x h => by
    have e := rel_lookup X.env scope x
    rcases h with h | h
    · rw [h] at e
      exact ⟨.inl e, .inr e⟩
    · rw [h] at e
      refine ⟨.inr e, .inl ?_⟩
      show (scope.names.lookup x == some .cell) = true
      rw [h]
      rfl
  tk := takesF
  tab := G.tab
  cool := fun _ => by
    obtain ⟨_, h2, h3, h4⟩ := G.cool hc
    exact ⟨rfl, h2, h3, h4⟩
  fns := G.fns
  rq := G.rq
  hotF := fun i z => by cases z
  dfF := fun z => by cases z
section
variable {pg : Pg} {T : Tb} {xa fa : Nat → Addr} {n k : Nat} {c : Cf} {L : Sc} {hx : Option Hx} {W : WX} {X : Cx} {x y : Str} {i : Nat} {p : Pos}
theorem Gd.gl (G : Gd pg T xa fa n c L hx W X) (h : glB L.sc x = true) : Gl X x := by
  unfold glB at h
  show X.env.scope.names.lookup x = some .globalImplicit
  rw [G.hsc]
  split at h
  · assumption
  · cases h
theorem Gd.blt (G : Gd pg T xa fa n c L hx W X) (h : T.blt L x = true) : Gl X x ∧ X.mg x = none := by
  unfold Tb.blt at h
  rw [Bool.and_eq_true, decide_eq_true_eq] at h
  exact ⟨G.gl h.1, G.tab.bl x h.2⟩
theorem Gd.slot (G : Gd pg T xa fa n c L hx W X) (h : slotC L x i = true) : X.N[i]? = some x ∧ Vis X.env.scope x ∧ nm x = true := by
  unfold slotC at h
  rw [Bool.and_eq_true, Bool.and_eq_true, decide_eq_true_eq] at h
  exact ⟨by rw [G.hN]; exact h.1, by rw [G.hsc]; exact visB_ok h.2.1, h.2.2⟩
theorem Gd.free (G : Gd pg T xa fa n c L hx W X) (h : (match L.hot with
  | some (some j) => decide (i ≠ j)
  | _ => true) = true) : freeI hx i := by
  intro h0 e z
  cases q : L.hot with
  | none =>
    rw [(G.cool q).1] at e
    cases e
  | some o =>
    obtain ⟨h1, k, fl, e1, _, _, e2, _⟩ := G.hotF o q
    rw [e1] at e
    cases e
    rw [q] at h
    rw [z] at e2
    subst e2
    exact of_decide_eq_true h rfl
theorem Gd.loc (G : Gd pg T xa fa n c L hx W X) (h : locC L x i = true) : X.N[i]? = some x ∧ Loc X.env.scope x ∧ (X.fn x = true ∨ X.env.scope.names.lookup x = some .local) ∧ freeI hx i := by
  unfold locC at h
  rw [Bool.and_eq_true, Bool.and_eq_true, decide_eq_true_eq] at h
  obtain ⟨h1, h2⟩ := G.fnl x (locB_ok h.1.2)
  exact ⟨by rw [G.hN]; exact h.1.1, h1, h2, G.free h.2⟩
theorem Gd.lcl (G : Gd pg T xa fa n c L hx W X) (h : lclC L x i = true) : X.N[i]? = some x ∧ X.env.scope.names.lookup x = some .local ∧ freeI hx i := by
  unfold lclC at h
  rw [Bool.and_eq_true, Bool.and_eq_true, decide_eq_true_eq, decide_eq_true_eq] at h
  exact ⟨by rw [G.hN]; exact h.1.1, by rw [G.hsc]; exact h.1.2, G.free h.2⟩
theorem Gd.cold (G : Gd pg T xa fa n c L hx W X) (h : L.hot.isNone = true) : L.hot = none ∧ hx = none ∧ c.x = none ∧ X.calm = true ∧ Room (c.d + 2) X.A := by
  have q : L.hot = none := Option.isNone_iff_eq_none.mp h
  exact ⟨q, G.cool q⟩
/-- soundness at n -/
structure SndAt (pg : Pg) (T : Tb) (xa fa : Nat → Addr) (n : Nat) : Prop where
  e : ∀ {k : Nat} {c : Cf} {L : Sc} {hx : Option Hx} {W : WX} {X : Cx} {e : Expr} {ir : E}, Gd pg T xa fa n c L hx W X → chkE T k L e ir = true → PE X e (tD X.K W xa hx c.x ((sys pg n).e c ir))
  es : ∀ {k : Nat} {c : Cf} {L : Sc} {hx : Option Hx} {W : WX} {X : Cx} {es : List Expr} {irs : List E}, Gd pg T xa fa n c L hx W X → chkEs T k L es irs = true → PA X es (tDs X.K W xa hx c.x ((sys pg n).es c irs))
  ks : ∀ {k : Nat} {c : Cf} {L : Sc} {hx : Option Hx} {W : WX} {X : Cx} {kws : List Keyword} {irs : List E}, Gd pg T xa fa n c L hx W X → chkEs T k L (kws.map (·.value)) irs = true → PK X kws (tDs X.K W xa hx c.x ((sys pg n).es c irs))
  t : ∀ {k : Nat} {c : Cf} {L : Sc} {hx : Option Hx} {W : WX} {X : Cx} {e : Expr} {ir : E}, Gd pg T xa fa n c L hx W X → chkT T k L e ir = true → PT X e (tT X.K W xa hx c.x ((sys pg n).e c ir))
  tw : ∀ {k : Nat} {c : Cf} {L : Sc} {hx : Option Hx} {W : WX} {X : Cx} {op : BoolOp} {xs : List Expr} {p : Pos} {ir : E}, Gd pg T xa fa n c L hx W X → chkT T k L (.BoolOp op xs p) ir = true → PW X (.BoolOp op xs p) (tT X.K W xa hx c.x ((sys pg n).e c ir))
  s : ∀ {k : Nat} {c : Cf} {L : Sc} {hx : Option Hx} {W : WX} {X : Cx} {st : Stmt} {ir : S}, Gd pg T xa fa n c L hx W X → chkS T k L st ir = true → PS X st (tS X.K W xa hx c.x ((sys pg n).s c ir))
  ss : ∀ {k : Nat} {c : Cf} {L : Sc} {hx : Option Hx} {W : WX} {X : Cx} {ss : List Stmt} {irs : List S}, Gd pg T xa fa n c L hx W X → chkSs T k L ss irs = true → PSs X ss (tS X.K W xa hx c.x ((sys pg n).ss c irs))
theorem snd_0 : SndAt pg T xa fa 0 where
  e := fun _ _ => ⟨fun _ _ _ _ _ _ ⟨_, _, _, _, z⟩ => z.elim⟩
  es := fun _ _ => ⟨fun _ _ _ _ _ _ _ ⟨_, _, _, _, z⟩ => z.elim⟩
  ks := fun _ _ => ⟨fun _ _ _ _ _ _ _ ⟨_, _, _, _, z⟩ => z.elim⟩
  t := fun _ _ => ⟨fun _ _ _ _ _ _ ⟨_, _, _, _, z⟩ => z.elim⟩
  tw := fun _ _ => ⟨fun _ _ _ _ _ _ _ ⟨_, _, _, _, z⟩ => z.elim⟩
  s := fun _ _ => ⟨fun _ _ _ _ _ _ ⟨_, _, _, _, z⟩ => z.elim⟩
  ss := fun _ _ => ⟨fun _ _ _ _ _ _ ⟨_, _, _, _, z⟩ => z.elim⟩
variable {η : Option (Nat × Flds)} {e : Expr} {es : List Expr} {st : Stmt} {sts : List Stmt}
theorem PT.eqf {f g : Env → MH → Res D} (h : PT X e (tT X.K W xa hx η f)) (q : ∀ ρ M, f ρ M = g ρ M) : PT X e (tT X.K W xa hx η g) := by
  have : f = g := funext fun ρ => funext fun M => q ρ M
  rw [← this]
  exact h
theorem PW.eqf {f g : Env → MH → Res D} (h : PW X e (tT X.K W xa hx η f)) (q : ∀ ρ M, f ρ M = g ρ M) : PW X e (tT X.K W xa hx η g) := by
  have : f = g := funext fun ρ => funext fun M => q ρ M
  rw [← this]
  exact h
theorem PA.eqf {f g : Env → MH → Res (List D)} (h : PA X es (tDs X.K W xa hx η f)) (q : ∀ ρ M, f ρ M = g ρ M) : PA X es (tDs X.K W xa hx η g) := by
  have : f = g := funext fun ρ => funext fun M => q ρ M
  rw [← this]
  exact h
theorem PK.eqf {kws : List Keyword} {f g : Env → MH → Res (List D)} (h : PK X kws (tDs X.K W xa hx η f)) (q : ∀ ρ M, f ρ M = g ρ M) : PK X kws (tDs X.K W xa hx η g) := by
  have : f = g := funext fun ρ => funext fun M => q ρ M
  rw [← this]
  exact h
theorem PS.eqf {f g : Env → MH → SRes} (h : PS X st (tS X.K W xa hx η f)) (q : ∀ ρ M, f ρ M = g ρ M) : PS X st (tS X.K W xa hx η g) := by
  have : f = g := funext fun ρ => funext fun M => q ρ M
  rw [← this]
  exact h
theorem PSs.eqf {f g : Env → MH → SRes} (h : PSs X sts (tS X.K W xa hx η f)) (q : ∀ ρ M, f ρ M = g ρ M) : PSs X sts (tS X.K W xa hx η g) := by
  have : f = g := funext fun ρ => funext fun M => q ρ M
  rw [← this]
  exact h
theorem notSet {y : Expr} (h : isSet y = false) : ∀ es k p, y ≠ .Set es k p := fun es k p z => by rw [z] at h; cases h
theorem lastSet {o q : CmpOp} {y z : Expr} (h : isSet z = false) : lastMarks [o, q] [y, z] = false := by
  show behindInMarks q z = false
  exact bmark q z (notSet h)
theorem fold_of {y : Expr} {env : PySem.Env} (h : isSet y = false) : ∀ v, foldedSetIterable y env v = pure v := fun v => by
  cases y with
  | Set es k p => cases h
  | _ => rfl
theorem plainIx_of {y : Expr} (h : noSlice y = true) : PlainIx y := fun o i => by
  cases y with
  | Slice l u s p => cases h
  | _ => rfl
theorem plainT_ok {y : Expr} {env : PySem.Env} (h : plainT y = true) : ∀ whole, isTrue y env whole = (do let v ← whole; standAt y.pos; holding [v] (truthy v)) := fun w => by
  cases y with
  | UnaryOp o a p => cases h
  | BoolOp o a p => cases h
  | IfExp a b d p => cases h
  | Compare a b d p => cases h
  | _ => rfl
theorem snd_con (G : Gd pg T xa fa n c L hx W X) {d : D} (h : conC T L e d = true) : PE X e (tD X.K W xa hx c.x fun ρ M => .ok d M) := by
  unfold conC at h
  split at h
  · unfold constC at h
    split at h
    · cases of_decide_eq_true h
      exact d_tC pe_int fun H β N => rfl
    · rw [Bool.and_eq_true, decide_eq_true_eq, decide_eq_true_eq] at h
      obtain ⟨rfl, h⟩ := h
      exact d_tC pe_str fun H β N => Rep.mkStr h
    · exact d_tC pe_non fun H β N => rfl
    · cases of_decide_eq_true h
      exact d_tC pe_bl fun H β N => rfl
    · cases h
  · rw [Bool.and_eq_true, Bool.and_eq_true] at h
    obtain ⟨⟨h1, h2⟩, h3⟩ := h
    split at h3
    · rename_i d' q
      have := same_eq h3
      subst this
      obtain ⟨v, u, e1, e2, e3⟩ := G.tab.co _ _ q
      exact d_tC (pe_glob (G.gl h1) e1 e2 (nm_ok h2).1) e3
    · cases h3
  · cases h
theorem sameT_eq : ∀ {a b : List (List Nat × D)}, sameT a b = true → a = b
  | [], [], _ => rfl
  | (s, d) :: r, (s', d') :: r', h => by
    unfold sameT at h
    rw [Bool.and_eq_true, Bool.and_eq_true, decide_eq_true_eq] at h
    rw [h.1, same_eq h.2.1, sameT_eq h.2.2]
  | [], _ :: _, h => by cases h
  | _ :: _, [], h => by cases h
theorem snd_kinds (G : Gd pg T xa fa n c L hx W X) {ks : List Kind} {ns : List Expr} (h : kindsC T L ks ns = true) :
    ns.length = ks.length ∧ (∀ (i : Nat) (k : Kind) (n : Expr), ks[i]? = some k → ns[i]? = some n → ∃ p, n = .Name (Str.ofString (kdN k)) p) ∧ ∀ k ∈ ks, Gl X (Str.ofString (kdN k)) ∧ X.mg (Str.ofString (kdN k)) = none := by
  unfold kindsC at h
  rw [Bool.and_eq_true, decide_eq_true_eq, List.all_eq_true] at h
  obtain ⟨h1, h2⟩ := h
  have key : ∀ (i : Nat) (k : Kind) (n : Expr), ks[i]? = some k → ns[i]? = some n → ∃ p, n = .Name (Str.ofString (kdN k)) p ∧ T.blt L (Str.ofString (kdN k)) = true := fun i k n a b => by
    have q := h2 (k, n) (by
      refine List.mem_iff_getElem?.mpr ⟨i, ?_⟩
      rw [List.getElem?_zip_eq_some]
      exact ⟨a, b⟩)
    dsimp only at q
    split at q
    · rw [Bool.and_eq_true, decide_eq_true_eq] at q
      obtain ⟨rfl, q⟩ := q
      exact ⟨_, rfl, q⟩
    · cases q
  refine ⟨h1, fun i k n a b => ?_, fun k hk => ?_⟩
  · obtain ⟨p, q, _⟩ := key i k n a b
    exact ⟨p, q⟩
  · obtain ⟨i, hi, e⟩ := List.mem_iff_getElem.mp hk
    have hi2 : i < ns.length := by rw [h1]; exact hi
    obtain ⟨p, _, q⟩ := key i k ns[i] (by rw [List.getElem?_eq_getElem hi, e]) (List.getElem?_eq_getElem hi2)
    exact G.blt q
theorem snd_cls (G : Gd pg T xa fa n c L hx W X) {cs : List Nat} {ns : List Expr} (h : clsC T L cs ns = true) :
    ns.length = cs.length ∧ (∀ (i : Nat) (j : Nat) (n : Expr), cs[i]? = some j → ns[i]? = some n → ∃ y p, n = .Name y p ∧ Gl X y ∧ X.mg y = some (.ref (xa j)) ∧ nm y = true) ∧ ∀ j ∈ cs, j < pg.xcs.length := by
  unfold clsC at h
  rw [Bool.and_eq_true, decide_eq_true_eq, List.all_eq_true] at h
  obtain ⟨h1, h2⟩ := h
  have key : ∀ (i : Nat) (j : Nat) (n : Expr), cs[i]? = some j → ns[i]? = some n → (∃ y p, n = .Name y p ∧ Gl X y ∧ X.mg y = some (.ref (xa j)) ∧ nm y = true) ∧ j < pg.xcs.length := fun i j n a b => by
    have q := h2 (j, n) (by
      refine List.mem_iff_getElem?.mpr ⟨i, ?_⟩
      rw [List.getElem?_zip_eq_some]
      exact ⟨a, b⟩)
    dsimp only at q
    split at q
    · rename_i z pz
      rw [Bool.and_eq_true, Bool.and_eq_true, decide_eq_true_eq] at q
      obtain ⟨q1, q2⟩ := G.tab.xc _ _ q.1.1
      exact ⟨⟨_, _, rfl, G.gl q.1.2, q1, q.2⟩, q2⟩
    · cases q
  refine ⟨h1, fun i k n a b => (key i k n a b).1, fun k hk => ?_⟩
  obtain ⟨i, hi, e⟩ := List.mem_iff_getElem.mp hk
  have hi2 : i < ns.length := by rw [h1]; exact hi
  exact (key i k ns[i] (by rw [List.getElem?_eq_getElem hi, e]) (List.getElem?_eq_getElem hi2)).2
theorem snd_names (Γ : Gd pg T xa fa n c L hx W X) {is : List Nat} {ts : List Expr} (h : ((is.zip ts).all fun p => match p.2 with
    | .Name x _ => locC L x p.1
    | _ => false) = true) (hl : is.length = ts.length) : (∀ (k i : Nat) (t : Expr), is[k]? = some i → ts[k]? = some t → ∃ x p, t = Expr.Name x p ∧ X.N[i]? = some x ∧ Loc X.env.scope x ∧ (X.fn x = true ∨ X.env.scope.names.lookup x = some .local)) ∧ (∀ i ∈ is, freeI hx i) ∧
      (assignEach ts X.env).length = is.length ∧ (assignEach ts X.env).findIdx? (·.1) = none := by
  rw [List.all_eq_true] at h
  have key : ∀ (k i : Nat) (t : Expr), is[k]? = some i → ts[k]? = some t → ∃ x p, t = Expr.Name x p ∧ locC L x i = true := fun k i t a b => by
    have q := h (i, t) (by
      refine List.mem_iff_getElem?.mpr ⟨k, ?_⟩
      rw [List.getElem?_zip_eq_some]
      exact ⟨a, b⟩)
    dsimp only at q
    split at q
    · exact ⟨_, _, rfl, q⟩
    · cases q
  refine ⟨fun k i t a b => ?_, fun i hi => ?_, ?_⟩
  · obtain ⟨x, p, e, q⟩ := key k i t a b
    obtain ⟨h1, h2, h3, _⟩ := Γ.loc q
    exact ⟨x, p, e, h1, h2, h3⟩
  · obtain ⟨k, hk, e⟩ := List.mem_iff_getElem.mp hi
    have hk2 : k < ts.length := by rw [← hl]; exact hk
    obtain ⟨x, p, _, q⟩ := key k i ts[k] (by rw [List.getElem?_eq_getElem hk, e]) (List.getElem?_eq_getElem hk2)
    exact (Γ.loc q).2.2.2
  · have names : ∀ t ∈ ts, ∃ x p, t = Expr.Name x p := fun t ht => by
      obtain ⟨k, hk, e⟩ := List.mem_iff_getElem.mp ht
      have hk2 : k < is.length := by rw [hl]; exact hk
      obtain ⟨x, p, q, _⟩ := key k is[k] t (List.getElem?_eq_getElem hk2) (by rw [List.getElem?_eq_getElem hk, e])
      exact ⟨x, p, q⟩
    rw [hl]
    clear h key hl
    induction ts with
    | nil => exact ⟨rfl, rfl⟩
    | cons t ts ih =>
      obtain ⟨i1, i2⟩ := ih fun t ht => names t (List.mem_cons_of_mem _ ht)
      obtain ⟨x, p, rfl⟩ := names t List.mem_cons_self
      refine ⟨?_, ?_⟩
      · show (assignEach ts X.env).length + 1 = ts.length + 1
        rw [i1]
      · show List.findIdx? _ ((false, assign (.Name x p) X.env) :: assignEach ts X.env) = none
        rw [List.findIdx?_cons]
        simp [i2]
theorem snd_g (Γ : Gd pg T xa fa n c L hx W X) {g : G} (hc : X.calm = true) {t : Expr} (h : chkG L t g = true) : PG X t (gS X.K g) ∧ ∀ i ∈ slots g, freeI hx i := by
  unfold chkG at h
  split at h
  · obtain ⟨h1, h2, h3, h4⟩ := Γ.loc h
    exact ⟨g_one Γ.nd h1 h2 h3, fun i hi => by
      have : i = _ := List.mem_singleton.mp hi
      rw [this]
      exact h4⟩
  · rw [Bool.and_eq_true, decide_eq_true_eq] at h
    obtain ⟨h1, h2, h3, h4⟩ := snd_names Γ h.2 h.1
    exact ⟨g_tup hc h.1 h1 Γ.nd h3 h4, h2⟩
  · cases h
end
end LX

set_option Elab.async false
set_option linter.all false
set_option maxRecDepth 100000
set_option maxHeartbeats 4000000
/-! LxSnd2: soundness of expressions. -/
namespace LX
open PySem L2 PyProof.Rows
section
variable {pg : Pg} {T : Tb} {xa fa : Nat → Addr} {n k : Nat} {c : Cf} {L : Sc} {hx : Option Hx} {W : WX} {X : Cx} {e : Expr} {es : List Expr} {st : Stmt} {sts : List Stmt} {η : Option (Nat × Flds)}
theorem pe_and1 {a : Expr} {p : Pos} {t : TE} (h : PE X a t) : PE X (.BoolOp .And [a] p) t := ⟨fun pins s σ H Q I q => h.run pins s σ H Q I q⟩
theorem pe_or1 {a : Expr} {p : Pos} {t : TE} (h : PE X a t) : PE X (.BoolOp .Or [a] p) t := ⟨fun pins s σ H Q I q => h.run pins s σ H Q I q⟩
theorem snd_es (ih : SndAt pg T xa fa n) (G : Gd pg T xa fa n c L hx W X) {irs : List E} (h : chkEs T k L es irs = true) : PA X es (tDs X.K W xa hx c.x (stepEs (sys pg n) c irs)) := by
  cases k with
  | zero => cases h
  | succ k =>
    unfold chkEs at h
    split at h
    · exact PA.eqf da_nil fun _ _ => rfl
    · rw [Bool.and_eq_true, Bool.and_eq_true] at h
      exact PA.eqf (da_cons (ih.e G h.2.1) (ih.es G h.2.2) (star1 (noStar_ne h.1))) fun _ _ => rfl
    · cases h
theorem snd_ks (ih : SndAt pg T xa fa n) (G : Gd pg T xa fa n c L hx W X) {kws : List Keyword} {irs : List E} (h : chkEs T k L (kws.map (·.value)) irs = true) : PK X kws (tDs X.K W xa hx c.x (stepEs (sys pg n) c irs)) := by
  cases k with
  | zero => cases h
  | succ k =>
    unfold chkEs at h
    cases kws with
    | nil =>
      cases irs with
      | nil => exact PK.eqf dk_nil fun _ _ => rfl
      | cons _ _ => cases h
    | cons kw kws =>
      cases irs with
      | nil => cases h
      | cons ir irs =>
        obtain ⟨a, e, q⟩ := kw
        have h : (noStar e && (chkE T k L e ir && chkEs T k L (kws.map (·.value)) irs)) = true := h
        rw [Bool.and_eq_true, Bool.and_eq_true] at h
        exact PK.eqf (dk_cons (ih.e G h.2.1) (ih.ks G h.2.2)) fun _ _ => rfl
theorem snd_i (ih : SndAt pg T xa fa n) (G : Gd pg T xa fa n c L hx W X) {tg : Expr} {ir : E} (h : chkI T k L tg e ir = true) : PI X tg e (tI X.K W xa hx c.x (itE (sys pg n) c ir)) := by
  cases k with
  | zero => cases h
  | succ k =>
    unfold chkI at h
    split at h
    · split at h
      · simp only [Bool.and_eq_true, decide_eq_true_eq] at h
        obtain ⟨rfl, h2, h3, h4, h5, h6⟩ := h
        obtain ⟨b1, b2⟩ := G.blt h2
        exact i_zip b1 b2 (ih.e G h5) (ih.e G h6) h3 h4
      · cases h
    · split at h
      · simp only [Bool.and_eq_true, decide_eq_true_eq] at h
        obtain ⟨rfl, h2, h3, h4⟩ := h
        obtain ⟨b1, b2⟩ := G.blt h2
        exact i_rng1 b1 b2 (ih.e G h4) h3
      · cases h
    · split at h
      · simp only [Bool.and_eq_true, decide_eq_true_eq] at h
        obtain ⟨rfl, h2, h3, h4, h5, h6⟩ := h
        obtain ⟨b1, b2⟩ := G.blt h2
        exact i_rng2 b1 b2 (ih.e G h5) (ih.e G h6) h3 h4
      · cases h
    · split at h
      · simp only [Bool.and_eq_true, decide_eq_true_eq] at h
        obtain ⟨rfl, h2, h3, h4, h5, h6, h7, h8⟩ := h
        obtain ⟨b1, b2⟩ := G.blt h2
        exact i_rng3 b1 b2 (ih.e G h6) (ih.e G h7) (ih.e G h8) h3 h4 h5
      · cases h
    · rename_i h0 h1 h2 h3
      have q : itE (sys pg n) c ir = fun ρ M => ((sys pg n).e c ir ρ M).bind fun d M => ofO (itemsD M d) M := by
        funext ρ M
        cases ir with
        | zip a b => exact absurd rfl (h0 a b)
        | rng1 a => exact absurd rfl (h1 a)
        | rng2 a b => exact absurd rfl (h2 a b)
        | rng3 a b d => exact absurd rfl (h3 a b d)
        | _ => rfl
      rw [q]
      exact i_val (ih.e G h)
theorem snd_lc (ih : SndAt pg T xa fa n) (Γ : Gd pg T xa fa n c L hx W X) {own : List Nat} {tg : G} {it te : E} {t : Option E} {elt tgE iter : Expr} {ifs : List Expr} {scope : Scope} (h : (L.hot.isNone && (!isSet iter && (chkI T k L tgE iter it && (blkC L.N L.sc scope (ownP L.N own) && (decide (∀ i ∈ slots tg, i ∈ own) &&
          (chkG ⟨L.N, relS scope L.sc, scope, none, false⟩ tgE tg && (chkE T k ⟨L.N, relS scope L.sc, scope, none, false⟩ elt te && (match ifs, t with
            | [], none => true
            | [t], some te => chkT T k ⟨L.N, relS scope L.sc, scope, none, false⟩ t te
            | _, _ => false)))))))) = true) :
    hx = none ∧ c.x = none ∧ X.calm = true ∧ PI X tgE iter (tI X.K W xa none none (itE (sys pg n) c it)) ∧ BlkOk X.N X.env.scope scope (ownP L.N own) ∧ (∀ i ∈ slots tg, i ∈ (ownP L.N own).map (·.2)) ∧ (ownP L.N own).map (·.2) = own ∧
    (∀ (s : Shared) (H : Hp) (C : Addr) (cl : List (Str × Addr)) (fp : List Addr), PG (X.blk s H scope (compEnvC scope cl C X.env) fp) tgE (gS X.K tg)) ∧
    (∀ (s' : Shared) (H : Hp) (C : Addr) (cl : List (Str × Addr)) (fp : List Addr), PTs (X.blk s' H scope (compEnvC scope cl C X.env) fp) ifs (tTs X.K xa (tests (sys pg n) c t))) ∧
    (∀ (s' : Shared) (H : Hp) (C : Addr) (cl : List (Str × Addr)) (fp : List Addr), PE (X.blk s' H scope (compEnvC scope cl C X.env) fp) elt (tD X.K WF xa none none ((sys pg n).e c te))) ∧
    ∀ x, foldedSetIterable iter X.env x = pure x := by
  simp only [Bool.and_eq_true, decide_eq_true_eq, Bool.not_eq_true'] at h
  obtain ⟨h1, h2, h3, h4, h5, h6, h7, h8⟩ := h
  obtain ⟨q0, q1, q2, q3, q4⟩ := Γ.cold h1
  have hb : BlkOk X.N X.env.scope scope (ownP L.N own) := by
    rw [Γ.hN, Γ.hsc]
    exact blkOk_by h4
  have hB : ∀ s H C cl fp, Gd pg T xa fa n c ⟨L.N, relS scope L.sc, scope, none, false⟩ none WF (X.blk s H scope (compEnvC scope cl C X.env) fp) := fun s H C cl fp => Γ.blk q0 hb.kind s H C cl fp
  have ho : (ownP L.N own).map (·.2) = own := by
    unfold ownP
    rw [List.map_map]
    exact (List.map_congr_left fun _ _ => rfl).trans (List.map_id _)
  refine ⟨q1, q2, q3, ?_, hb, by rw [ho]; exact h5, ho, fun s H C cl fp => (snd_g (hB s H C cl fp) q3 h6).1, fun s H C cl fp => ?_, fun s H C cl fp => ?_, fold_of h2⟩
  · have z := snd_i (tg := tgE) ih Γ h3
    rw [q1, q2] at z
    exact z
  · split at h8
    · exact ts_nil
    · have z := ih.t (hB s H C cl fp) h8
      rw [q2] at z
      exact ts_one z
    · cases h8
  · have z := ih.e (hB s H C cl fp) h7
    rw [q2] at z
    exact z
theorem snd_e (ih : SndAt pg T xa fa n) (G : Gd pg T xa fa (n + 1) c L hx W X) {ir : E} (h : chkE T k L e ir = true) : PE X e (tD X.K W xa hx c.x (stepE pg (sys pg n) c ir)) := by
  have G' := G.down (Nat.le_succ n)
  cases k with
  | zero => cases h
  | succ k =>
    unfold chkE at h
    cases ir with
    | var i =>
      dsimp only at h
      split at h
      · obtain ⟨h1, h2, h3⟩ := G.slot h
        exact PE.eqf (d_var h1 h2 (nm_ok h3).1 (nm_ok h3).2) fun _ _ => rfl
      · cases h
    | con d => exact PE.eqf (snd_con G h) fun _ _ => rfl
    | tup es =>
      dsimp only at h
      split at h
      · exact PE.eqf (d_tup (ih.es G' h)) fun _ _ => rfl
      · cases h
    | lst m es =>
      dsimp only at h
      split at h
      · exact PE.eqf (d_lst (ih.es G' h)) fun _ _ => rfl
      · cases h
    | bin m o a b =>
      dsimp only at h
      split at h
      · simp only [Bool.and_eq_true, decide_eq_true_eq] at h
        obtain ⟨rfl, h1, h2⟩ := h
        exact PE.eqf (d_bin (ih.e G' h1) (ih.e G' h2)) fun _ _ => rfl
      · cases h
    | neg a =>
      dsimp only at h
      split at h
      · exact PE.eqf (d_neg (ih.e G' h)) fun _ _ => rfl
      · cases h
    | cmp o a b =>
      dsimp only at h
      split at h
      · simp only [Bool.and_eq_true, decide_eq_true_eq, Bool.not_eq_true'] at h
        obtain ⟨rfl, h1, h2, h3⟩ := h
        exact PE.eqf (d_cmp G.un (ih.e G' h2) (ih.e G' h3) (bmark _ _ (notSet h1))) fun _ _ => rfl
      · cases h
    | chain o p a b d =>
      dsimp only at h
      split at h
      · simp only [Bool.and_eq_true, decide_eq_true_eq, Bool.not_eq_true'] at h
        obtain ⟨rfl, rfl, h1, h2, h3, h4⟩ := h
        exact PE.eqf (d_chain G.un (ih.e G' h2) (ih.e G' h3) (ih.e G' h4) (lastSet h1)) fun _ _ => rfl
      · cases h
    | and a b =>
      dsimp only at h
      split at h
      · rw [Bool.and_eq_true] at h
        exact PE.eqf (d_and (ih.e G' h.1) (pe_and1 (ih.e G' h.2))) fun _ _ => rfl
      · rw [Bool.and_eq_true] at h
        exact PE.eqf (d_and (ih.e G' h.1) (ih.e G' h.2)) fun _ _ => rfl
      · cases h
    | or a b =>
      dsimp only at h
      split at h
      · rw [Bool.and_eq_true] at h
        exact PE.eqf (d_or (ih.e G' h.1) (pe_or1 (ih.e G' h.2))) fun _ _ => rfl
      · rw [Bool.and_eq_true] at h
        exact PE.eqf (d_or (ih.e G' h.1) (ih.e G' h.2)) fun _ _ => rfl
      · cases h
    | not a =>
      dsimp only at h
      split at h
      · exact PE.eqf (d_not (ih.e G' h)) fun _ _ => rfl
      · cases h
    | ite t a b =>
      dsimp only at h
      split at h
      · simp only [Bool.and_eq_true] at h
        obtain ⟨h1, h2, h3⟩ := h
        exact PE.eqf (d_ite (ih.t G' h1) (ih.e G' h2) (ih.e G' h3)) fun _ _ => rfl
      · cases h
    | truth a => cases h
    | call f es =>
      dsimp only at h
      split at h
      · simp only [Bool.and_eq_true, decide_eq_true_eq] at h
        obtain ⟨h1, h2, h3, h4, h5, h6⟩ := h
        obtain ⟨q0, q1, q2, q3, q4⟩ := G.cold h4
        obtain ⟨a1, a2, a3⟩ := G.tab.fn f _ h1
        obtain ⟨fd, ps, F, hb, _, hn⟩ := G.fns n (Nat.le_succ n) c.d (Nat.le_refl _) f _ (List.getElem?_eq_getElem a3)
        exact PE.eqf (d_call F q4 (G.gl h2) a1 a2 hb G.tk hn (ih.es G' h6) (nm_ok h3).1 (by rw [List.all_cons]; exact h5)) fun _ _ => rfl
      · cases h
    | fn m b es =>
      dsimp only at h
      split at h
      · simp only [Bool.and_eq_true, decide_eq_true_eq] at h
        obtain ⟨rfl, h2, h4, h5, h6⟩ := h
        obtain ⟨q0, q1, q2, q3, q4⟩ := G.cold h4
        obtain ⟨b1, b2⟩ := G.blt h2
        exact PE.eqf (d_fn q3 b1 b2 (ih.es G' h6) (by rw [List.all_cons]; exact h5)) fun _ _ => rfl
      · cases h
    | meth t o es =>
      dsimp only at h
      split at h
      · simp only [Bool.and_eq_true, decide_eq_true_eq, List.isEmpty_iff] at h
        obtain ⟨rfl, rfl, h3, h4, h5, rfl⟩ := h
        refine PE.eqf (d_meth0 (ih.e G' h5) h3 h4) fun ρ M => ?_
        cases n with
        | zero => rfl
        | succ n => rfl
      · simp only [Bool.and_eq_true, decide_eq_true_eq, Bool.not_eq_true', decide_eq_false_iff_not] at h
        obtain ⟨h1, rfl, h3, h4, h5, h6, h7, h8⟩ := h
        exact PE.eqf (d_meth h1 (ih.e G' h5) (ih.es G' h8) h3 h4 (by rw [List.all_cons]; exact h6) h7) fun _ _ => rfl
      · cases h
    | ix a i =>
      dsimp only at h
      split at h
      · simp only [Bool.and_eq_true] at h
        obtain ⟨h1, h2, h3⟩ := h
        exact PE.eqf (d_ix (ih.e G' h2) (ih.e G' h3) (plainIx_of h1)) fun _ _ => rfl
      · cases h
    | cut m a lo hi =>
      dsimp only at h
      split at h
      · simp only [Bool.and_eq_true] at h
        obtain ⟨h1, h2, h3⟩ := h
        have key : ∀ {k : Nat} {o : Option Expr} {oe : Option E}, chkO T k L o oe = true → (∀ e x, o = some e → oe = some x → PE X e (tD X.K W xa hx c.x ((sys pg n).e c x))) ∧ o.isSome = oe.isSome := fun {k o oe} q => by
          cases k with
          | zero => cases q
          | succ k =>
            unfold chkO at q
            split at q
            · exact ⟨fun e x a b => (by cases a), rfl⟩
            · refine ⟨fun e x a b => ?_, rfl⟩
              cases a
              cases b
              exact ih.e G' q
            · cases q
        exact PE.eqf (d_cut (ih.e G' h1) (key h2).1 (key h2).2 (key h3).1 (key h3).2) fun _ _ => rfl
      · cases h
    | rev m a =>
      dsimp only at h
      split at h
      · exact PE.eqf (d_rev (ih.e G' h)) fun _ _ => rfl
      · cases h
    | lc m own tg it t te =>
      dsimp only at h
      split at h
      · obtain ⟨q1, q2, q3, h3, h4, h5, ho, h6, h7, h8, h9⟩ := snd_lc ih G' h
        rw [q1, q2]
        refine PE.eqf (d_lc (mb := m) q3 G.nd h3 h4 h5 h6 h7 h8 h9) fun _ _ => ?_
        rw [ho]
        rfl
      · cases h
    | stp a lo =>
      dsimp only at h
      split at h
      · simp only [Bool.and_eq_true] at h
        obtain ⟨h1, h2⟩ := h
        have key : ∀ {k : Nat} {o : Option Expr} {oe : Option E}, chkO T k L o oe = true → (∀ e x, o = some e → oe = some x → PE X e (tD X.K W xa hx c.x ((sys pg n).e c x))) ∧ o.isSome = oe.isSome := fun {k o oe} q => by
          cases k with
          | zero => cases q
          | succ k =>
            unfold chkO at q
            split at q
            · exact ⟨fun e x a b => (by cases a), rfl⟩
            · refine ⟨fun e x a b => ?_, rfl⟩
              cases a
              cases b
              exact ih.e G' q
            · cases q
        exact PE.eqf (d_stp (ih.e G' h1) (key h2).1 (key h2).2) fun _ _ => rfl
      · cases h
    | lrng m a =>
      dsimp only at h
      split at h
      · simp only [Bool.and_eq_true, decide_eq_true_eq] at h
        obtain ⟨rfl, rfl, h2, h3, h4, h5, h6⟩ := h
        obtain ⟨q0, q1, q2, q3, q4⟩ := G.cold h4
        obtain ⟨b1, b2⟩ := G.blt h2
        obtain ⟨b3, b4⟩ := G.blt h3
        exact PE.eqf (d_lrng q3 b1 b2 b3 b4 (ih.e G' h6) h5) fun _ _ => rfl
      · cases h
    | sm m k a b =>
      dsimp only at h
      split at h
      · simp only [Bool.and_eq_true, decide_eq_true_eq] at h
        obtain ⟨rfl, h2, h3, h4, h5, h6⟩ := h
        exact PE.eqf (d_sm (ih.e G' h5) (ih.e G' h6) h2 h3 h4) fun _ _ => rfl
      · cases h
    | tget kvs a b =>
      dsimp only at h
      split at h
      · simp only [Bool.and_eq_true, decide_eq_true_eq] at h
        obtain ⟨rfl, h1, h2, h3, h4, h5, h6, h7, h8⟩ := h
        split at h3
        · rename_i kvs' q
          have := sameT_eq h3
          subst this
          obtain ⟨p, e1, e2⟩ := G.tab.ta _ _ q
          exact PE.eqf (d_tget (G.gl h1) e1 (nm_ok h2).1 e2 (ih.e G' h7) (ih.e G' h8) h4 (by simp [h5, h6])) fun _ _ => rfl
        · cases h3
      · cases h
    | call0 f =>
      dsimp only at h
      split at h
      · simp only [Bool.and_eq_true, decide_eq_true_eq] at h
        obtain ⟨h1, h2, h3, h4⟩ := h
        obtain ⟨q0, q1, q2, q3, q4⟩ := G.cold h4
        obtain ⟨a1, a2, a3⟩ := G.tab.fn f _ h1
        obtain ⟨fd, ps, F, hb, _, hn⟩ := G.fns n (Nat.le_succ n) c.d (Nat.le_refl _) f _ (List.getElem?_eq_getElem a3)
        refine PE.eqf (d_call0 (fnOk_noExn F) q4 (G.gl h2) a1 a2 hb (G.tk.imp fun _ _ _ _ z => z.elim) (fun ds M z => hn ds M fun w => z (by rw [w]; rfl)) (nm_ok h3).1 (fun ds M c fs M' z => noExn_ne z)) fun _ _ => rfl
      · cases h
    | edic =>
      dsimp only at h
      split at h
      · exact PE.eqf d_edic fun _ _ => rfl
      · cases h
    | bad =>
      dsimp only at h
      split at h
      · exact PE.eqf d_bad fun _ _ => rfl
      · cases h
    | lower a =>
      dsimp only at h
      split at h
      · simp only [Bool.and_eq_true, decide_eq_true_eq] at h
        obtain ⟨rfl, h2, h3, h4⟩ := h
        exact PE.eqf (d_lower (ih.e G' h4) h2 h3) fun _ _ => rfl
      · cases h
    | lset a =>
      dsimp only at h
      split at h
      · simp only [Bool.and_eq_true, decide_eq_true_eq] at h
        obtain ⟨rfl, rfl, h2, h3, h4, h5, h6⟩ := h
        obtain ⟨q0, q1, q2, q3, q4⟩ := G.cold h4
        obtain ⟨b1, b2⟩ := G.blt h2
        obtain ⟨b3, b4⟩ := G.blt h3
        exact PE.eqf (d_lset q3 b1 b2 b3 b4 (ih.e G' h6) h5) fun _ _ => rfl
      · cases h
    | srts a =>
      dsimp only at h
      split at h
      · simp only [Bool.and_eq_true, decide_eq_true_eq] at h
        obtain ⟨rfl, rfl, h2, h3, h4, h5, h6⟩ := h
        obtain ⟨q0, q1, q2, q3, q4⟩ := G.cold h4
        obtain ⟨b1, b2⟩ := G.blt h2
        obtain ⟨b3, b4⟩ := G.blt h3
        exact PE.eqf (d_srts q3 b1 b2 b3 b4 (ih.e G' h6) h5) fun _ _ => rfl
      · cases h
    | callk f m pm es =>
      dsimp only at h
      split at h
      · simp only [Bool.and_eq_true, decide_eq_true_eq] at h
        obtain ⟨h1, h2, h3, h4, rfl, h6, h7, h8⟩ := h
        obtain ⟨q0, q1, q2, q3, q4⟩ := G.cold h4
        obtain ⟨a1, a2, a3⟩ := G.tab.fn f _ h1
        obtain ⟨fd, ps, F, hb, hkb, hn⟩ := G.fns n (Nat.le_succ n) c.d (Nat.le_refl _) f _ (List.getElem?_eq_getElem a3)
        refine PE.eqf (d_kw F q4 (G.gl h2) a1 a2 (hkb _ h7 rfl) G.tk hn (ih.ks G' h8) (nm_ok h3).1 h6 rfl) fun ρ M => ?_
        rename_i kws _
        have el : (kws.filterMap (·.arg)).length = kws.length := by
          clear h7 h8 hkb
          induction kws with
          | nil => rfl
          | cons kw kws ihk =>
            obtain ⟨a, e, q⟩ := kw
            rw [List.all_cons, Bool.and_eq_true] at h6
            have h6a : a.isSome = true := h6.1
            cases a with
            | none => cases h6a
            | some a => rw [List.filterMap_cons]; exact congrArg (· + 1) (ihk h6.2)
        show _ = ((sys pg n).es c es ρ M).bind fun ds M => if ds.length = kws.length then (sys pg n).f c.d f (permL pm ds) M else .stuck
        rw [← el]
      · cases h
    | hcall q =>
      dsimp only at h
      split at h
      · simp only [Bool.and_eq_true, decide_eq_true_eq] at h
        obtain ⟨h1, h2, h3, h4⟩ := h
        split at h4
        · rename_i i hq
          obtain ⟨hh, k0, fl, e1, e2, hk, hi, HX⟩ := G.hotF _ hq
          obtain ⟨f, t, fd, qual, st, N, p0, kk, b1, b2, b3, b4, b5, b6, b7, b8, b9⟩ := G.tab.qn q _ h1
          obtain ⟨s1, s2, s3⟩ := G.slot h4
          subst e1
          obtain ⟨cd, cx⟩ := c
          have e2 : cx = some (k0, fl) := e2
          subst e2
          cases cd with
          | zero =>
            have z : stepE pg (sys pg n) ⟨0, some (k0, fl)⟩ (.hcall q) = fun _ _ => .stuck := rfl
            rw [z]
            exact ⟨fun _ _ _ _ _ _ ⟨_, _, _, _, w⟩ => w.elim⟩
          | succ d =>
            have rq := G.rq
            have rq1 : X.A.depth + 3 * (d + 1) + 8 < recursionLimit := rq.1
            have rq2 : X.A.units + 16 * (d + 1) + 100 < cLine := rq.2
            refine PE.eqf (d_hot (g := (sys pg n).ss ⟨d, some (k0, fl)⟩ t.2) HX hi s1 s2 s3 b4 b5 b6 (by omega) (G.gl h2) b2 b3 h3 b7 b8 fun cdv s H oe pn hx2 => ?_) fun ρ M => ?_
            · refine ih.ss (c := ⟨d, some (k0, fl)⟩) (L := ⟨N, defScope st, defScope st, some (some 0), false⟩) (hx := some ⟨some 0, hh.a, hh.dx⟩) (W := WF) {
                hN := rfl
                hsc := rfl
                nd := b5.nd
                kd := b5.kind
                un := by
                  show X.A.units + 3 + 65 < cLine
                  omega
                fnl := fun x h => ⟨h, .inl rfl⟩
                tk := takesF
                tab := G.tab
                cool := fun z => by cases z
                fns := fun m hm d' hd' f t hf => G.fns m (Nat.le_trans hm (Nat.le_succ n)) d' (Nat.le_trans hd' (Nat.le_succ d)) f t hf
                rq := by
                  constructor
                  · show X.A.depth + 1 + 3 * d + 8 < recursionLimit
                    omega
                  · show X.A.units + 3 + 16 * d + 100 < cLine
                    omega
                hotF := fun j z => by
                  cases z
                  exact ⟨_, k0, fl, rfl, rfl, hk, rfl, hx2⟩
                dfF := fun z => by cases z } b9
            · simp only [stepE, b1]
        · cases h4
      · cases h
    | rng1 a => cases h
    | rng2 a b => cases h
    | rng3 a b d => cases h
    | zip a b => cases h
    | isi ks a =>
      dsimp only at h
      split at h
      · simp only [Bool.and_eq_true, decide_eq_true_eq] at h
        obtain ⟨rfl, h2, h3, h4, h5⟩ := h
        obtain ⟨b1, b2⟩ := G.blt h2
        split at h5
        · obtain ⟨k1, k2, k3⟩ := snd_kinds G h5
          obtain ⟨p, e1⟩ := k2 0 _ _ rfl rfl
          obtain ⟨g1, g2⟩ := k3 _ (List.mem_singleton.mpr rfl)
          cases e1
          exact PE.eqf (d_isi1 b1 b2 g1 g2 (ih.e G' h4) h3) fun _ _ => rfl
        · cases h5
      · simp only [Bool.and_eq_true, decide_eq_true_eq] at h
        obtain ⟨rfl, h2, h3, h4, h5, h6⟩ := h
        obtain ⟨b1, b2⟩ := G.blt h2
        obtain ⟨k1, k2, k3⟩ := snd_kinds G h5
        exact PE.eqf (d_isiN b1 b2 k1 k2 k3 h6 (ih.e G' h4) h3) fun _ _ => rfl
      · cases h
    | xat f =>
      dsimp only at h
      split at h
      · simp only [Bool.and_eq_true, decide_eq_true_eq] at h
        obtain ⟨⟨rfl, h1⟩, h2⟩ := h
        split at h2
        · rename_i i q
          obtain ⟨hh, xk, fl, e1, e2, e3, e4, e5⟩ := G.hotF _ q
          obtain ⟨s1, s2, s3⟩ := G.slot h2
          rw [e1, e2]
          refine PE.eqf (d_xat (h := hh) (xk := xk) (fl := fl) e5 (G.tab.xt.xf xk e3) (G.tab.no _ h1 xk e3) e4 s1 s2 s3) fun _ _ => ?_
          show _ = (match c.x with
            | some (_, fs) => ofO (fs.lookup _) _
            | none => .stuck)
          rw [e2]
        · cases h2
      · cases h
    | xisi cs =>
      have stp : ∀ {xk : Nat} {fl : Flds} {cs : List Nat}, c.x = some (xk, fl) → ∀ (ρ : Env) (M : MH), (match pg.xcs[xk]? with
          | some z => Res.ok (D.bl (cs.any fun j => decide (j ∈ z.up))) M
          | none => .stuck) = stepE pg (sys pg n) c (.xisi cs) ρ M := fun {xk fl cs} e2 ρ M => by
        show _ = (match c.x with
          | some (k, _) => (match pg.xcs[k]? with
            | some x => Res.ok (D.bl (cs.any fun j => decide (j ∈ x.up))) M
            | none => .stuck)
          | none => .stuck)
        rw [e2]
      dsimp only at h
      split at h
      · simp only [Bool.and_eq_true, decide_eq_true_eq] at h
        obtain ⟨rfl, h2, h3, h5⟩ := h
        obtain ⟨b1, b2⟩ := G.blt h2
        split at h3
        · rename_i i q
          obtain ⟨hh, xk, fl, e1, e2, e3, e4, e5⟩ := G.hotF _ q
          obtain ⟨s1, s2, s3⟩ := G.slot h3
          split at h5
          · obtain ⟨k1, k2, k3⟩ := snd_cls G h5
            obtain ⟨y, p, e6, g1, g2, g3⟩ := k2 0 _ _ rfl rfl
            cases e6
            rw [e1, e2]
            exact PE.eqf (d_xis1 (h := hh) (xk := xk) (fl := fl) G.tab.xt e5 e3 e4 s1 s2 s3 (k3 _ (List.mem_singleton.mpr rfl)) b1 b2 g1 g2 g3) (stp e2)
          · cases h5
        · cases h3
      · simp only [Bool.and_eq_true, decide_eq_true_eq] at h
        obtain ⟨rfl, h2, h3, h5, h6⟩ := h
        obtain ⟨b1, b2⟩ := G.blt h2
        split at h3
        · rename_i i q
          obtain ⟨hh, xk, fl, e1, e2, e3, e4, e5⟩ := G.hotF _ q
          obtain ⟨s1, s2, s3⟩ := G.slot h3
          obtain ⟨k1, k2, k3⟩ := snd_cls G h5
          rw [e1, e2]
          exact PE.eqf (d_xisN (h := hh) (xk := xk) (fl := fl) G.tab.xt e5 e3 e4 s1 s2 s3 k3 b1 b2 k1 k2 h6) (stp e2)
        · cases h3
      · cases h
theorem snd_t (ih : SndAt pg T xa fa n) (G : Gd pg T xa fa (n + 1) c L hx W X) : ∀ {k : Nat} {e : Expr} {ir : E}, chkT T k L e ir = true → PT X e (tT X.K W xa hx c.x (stepE pg (sys pg n) c ir)) ∧ ∀ op xs p, e = .BoolOp op xs p → PW X e (tT X.K W xa hx c.x (stepE pg (sys pg n) c ir)) := by
  have G' := G.down (Nat.le_succ n)
  intro k
  induction k with
  | zero => intro e ir h; cases h
  | succ k ihk =>
    intro e ir h
    unfold chkT at h
    split at h
    · -- Compare
      refine ⟨?_, fun op xs p z => by cases z⟩
      split at h
      · simp only [Bool.and_eq_true, decide_eq_true_eq, Bool.not_eq_true'] at h
        obtain ⟨rfl, h1, h2, h3⟩ := h
        exact PT.eqf (t_cmp G.un (ih.e G' h2) (ih.e G' h3) (bmark _ _ (notSet h1))) fun _ _ => rfl
      · simp only [Bool.and_eq_true, decide_eq_true_eq, Bool.not_eq_true'] at h
        obtain ⟨rfl, rfl, h1, h2, h3, h4⟩ := h
        exact PT.eqf (t_chain G.un (ih.e G' h2) (ih.e G' h3) (ih.e G' h4) (lastSet h1)) fun _ _ => rfl
      · cases h
    · -- And
      rename_i xs p
      have w : PW X (.BoolOp .And xs p) (tT X.K W xa hx c.x (stepE pg (sys pg n) c ir)) := by
        split at h
        · exact pw_and1 (ihk h).1
        · rw [Bool.and_eq_true] at h
          exact PW.eqf (t_and (ih.t G' h.1) (ih.tw G' h.2)) fun _ _ => rfl
        · cases h
      exact ⟨w.pt, fun op xs p _ => w⟩
    · -- Or
      rename_i xs p
      have w : PW X (.BoolOp .Or xs p) (tT X.K W xa hx c.x (stepE pg (sys pg n) c ir)) := by
        split at h
        · exact pw_or1 (ihk h).1
        · rw [Bool.and_eq_true] at h
          exact PW.eqf (t_or (ih.t G' h.1) (ih.tw G' h.2)) fun _ _ => rfl
        · cases h
      exact ⟨w.pt, fun op xs p _ => w⟩
    · refine ⟨?_, fun op xs p z => by cases z⟩
      split at h
      · exact PT.eqf (t_not (ih.t G' h)) fun _ _ => rfl
      · cases h
    · have hp : plainT e = true ∧ True := by
        split at h <;> (rw [Bool.and_eq_true] at h; exact ⟨h.1, trivial⟩)
      refine ⟨?_, fun op xs p z => by rw [z] at hp; cases hp.1⟩
      split at h
      · rw [Bool.and_eq_true] at h
        exact PT.eqf (t_truth (ih.e G' h.2) (plainT_ok h.1)) fun _ _ => rfl
      · rw [Bool.and_eq_true] at h
        exact t_val (snd_e ih G h.2) (plainT_ok h.1)
end
end LX

set_option Elab.async false
set_option linter.all false
set_option maxRecDepth 100000
set_option maxHeartbeats 4000000
/-! LxSnd3: soundness of statements. -/
namespace LX
open PySem L2 PyProof.Rows
section
variable {pg : Pg} {T : Tb} {xa fa : Nat → Addr} {n k : Nat} {c : Cf} {L : Sc} {hx : Option Hx} {W : WX} {X : Cx} {e : Expr} {es : List Expr} {st : Stmt} {sts : List Stmt} {η : Option (Nat × Flds)}
theorem swap_ok {ts vs : List Expr} {k1 k2 : Nat} {p1 p2 : Pos} {env : PySem.Env} {r : Option (List Str)} (hk : env.scope.kind = .function) (h : swapB ts vs env.scope = some r) : swappedStores [.Tuple ts k1 p1] (.Tuple vs k2 p2) env = pure r := by
  have hb : env.blockKind = .function := by unfold PySem.Env.blockKind; rw [hk]; rfl
  have hb2 : (env.blockKind != .function) = false := by rw [hb]; rfl
  unfold swapB at h
  unfold swappedStores
  simp only [hb2, Bool.or_false]
  split at h
  · cases h
    rw [if_pos (by assumption)]
  · rw [if_neg (by assumption)]
    split at h
    · cases h
      rw [if_pos (by assumption)]
    · rw [if_neg (by assumption)]
      generalize hn : List.filterMap _ ts = names
      have h : (if (names.length != ts.length || names.eraseDups.length != names.length) = true then some none else
          if vs.all (foldedForSure 8) = true then some none else if vs.all (constantsAlone 8) = true then none else some (some names)) = some r := by
        rw [← hn]
        exact h
      split at h
      · cases h
        rw [if_pos (by assumption)]
      · rw [if_neg (by assumption)]
        split at h
        · cases h
          rw [if_pos (by assumption)]
        · rw [if_neg (by assumption)]
          split at h
          · cases h
          · cases h
            rw [if_neg (by assumption)]
theorem swaps_of {e : Expr} {t : Option Expr} {l : Nat} {env : PySem.Env} (h : isLc e = false) : swapsWith e t l env = pure false := by
  cases e with
  | ListComp _ _ _ _ => cases h
  | SetComp _ _ _ _ => cases h
  | DictComp _ _ _ _ _ => cases h
  | _ => rfl
theorem s_par3 {x y z : Str} {i j l : Nat} {a b d : Expr} {px py pz pt pos : Pos} {kt k2 : Nat} {pt2 : Pos} {fx fb fd : Env → MH → Res D} (hc : X.calm = true) (hN : X.N.Nodup) (hi : X.N[i]? = some x) (hj : X.N[j]? = some y) (hl : X.N[l]? = some z) (hij : i ≠ j) (hil : i ≠ l) (hjl : j ≠ l)
    (hlx : X.env.scope.names.lookup x = some .local) (hly : X.env.scope.names.lookup y = some .local) (hlz : X.env.scope.names.lookup z = some .local)
    (ha : PE X a (tD X.K W xa hx η fx)) (hb : PE X b (tD X.K W xa hx η fb)) (hd : PE X d (tD X.K W xa hx η fd)) (hsa : noStar a = true) (hsb : noStar b = true) (hsd : noStar d = true) (hf1 : freeI hx i) (hf2 : freeI hx j) (hf3 : freeI hx l)
    (hw : swappedStores [.Tuple [.Name x px, .Name y py, .Name z pz] kt pt] (.Tuple [a, b, d] k2 pt2) X.env = pure (some [x, y, z])) :
    PS X (.Assign [.Tuple [.Name x px, .Name y py, .Name z pz] kt pt] (.Tuple [a, b, d] k2 pt2) pos) (tS X.K W xa hx η fun ρ M => (fx ρ M).sbind ρ fun x M => (fb ρ M).sbind ρ fun y M => (fd ρ M).sbind ρ fun z M => .nx (((ρ.set i (some x)).set j (some y)).set l (some z)) M) :=
  PS.imp (ps_par3 hc hN hi hj hl hij hil hjl hlx hly hlz (pa_cons ha (pa_cons hb (pa_cons hd pa_nil (star1 (noStar_ne hsd))) (star1 (noStar_ne hsb))) (star1 (noStar_ne hsa))) hw rfl) fun D σ H q => tR.sseq q fun β ρ M d1 v H1 sr r1 h1 => tR.sseq2 sr h1 fun β2 M2 d2 v2 H2 sr2 mo r2 h2 =>
    tR.sseq2 sr2 h2 fun β3 M3 d3 v3 H3 sr3 mo3 r3 h3 => ⟨v, v2, v3, rfl, h3 β3 H3 _ (Ext.refl ..) (((sr3.set (mo3 (mo r1)) hf1).set (mo3 r2) hf2).set r3 hf3)⟩
theorem ps_setLc' {mb : Bool} {x : Str} {i : Nat} {py pos sp : Pos} {elt tgE iter : Expr} {ifs : List Expr} {scope : Scope} {own : List (Str × Nat)} {g : G} {it te : E} {t : Option E} {s : Sys} {c : Cf} (hc : X.calm = true) (hN : X.N.Nodup) (hy : X.N[i]? = some x) (hyl : X.env.scope.names.lookup x = some .local)
    (hsw : swapsWith (.ListComp elt [⟨tgE, iter, ifs, 0⟩] scope pos) (some (.Name x py)) sp.line X.env = pure true) 
    (hi : PI X tgE iter (tI X.K W xa none none (itE s c it))) (ok : BlkOk X.N X.env.scope scope own) (hsl : ∀ i ∈ slots g, i ∈ own.map (·.2))
    (hg : ∀ (s : Shared) (H : Hp) (C : Addr) (cl : List (Str × Addr)) (fp : List Addr), PG (X.blk s H scope (compEnvC scope cl C X.env) fp) tgE (gS X.K g))
    (ht : ∀ (s' : Shared) (H : Hp) (C : Addr) (cl : List (Str × Addr)) (fp : List Addr), PTs (X.blk s' H scope (compEnvC scope cl C X.env) fp) ifs (tTs X.K xa (tests s c t)))
    (he : ∀ (s' : Shared) (H : Hp) (C : Addr) (cl : List (Str × Addr)) (fp : List Addr), PE (X.blk s' H scope (compEnvC scope cl C X.env) fp) elt (tD X.K WF xa none none (s.e c te)))
    (hs : ∀ x, foldedSetIterable iter X.env x = pure x) :
    PS X (.Assign [.Name x py] (.ListComp elt [⟨tgE, iter, ifs, 0⟩] scope pos) sp) (tS X.K W xa none none fun ρ M => ((itE s c it ρ M).bind fun p M => (noExn (lcL s c g p.1 p.2 t te (wipeE ρ (own.map (·.2))) p.1 [] M)).bind fun l M => LX.newL mb l M).sbind ρ fun d M => .nx (ρ.set i (some d)) M) :=
  PS.imp (ps_setLc hc hN hy hyl hsw hi ok hg ht he hs) fun D σ H q => lc_read hsl (tR.sseq q fun β ρ M d v H1 sr r1 h1 => h1 β H1 _ (Ext.refl ..) (sr.set r1 fun h z => by cases z))
theorem snd_ss (ih : SndAt pg T xa fa n) (G : Gd pg T xa fa n c L hx W X) {irs : List S} (h : chkSs T k L sts irs = true) : PSs X sts (tS X.K W xa hx c.x (stepSs (sys pg n) c irs)) := by
  cases k with
  | zero => cases h
  | succ k =>
    unfold chkSs at h
    split at h
    · exact PSs.eqf ss_nil fun _ _ => rfl
    · rw [Bool.and_eq_true] at h
      exact PSs.eqf (ss_cons (ih.s G h.1) (ih.ss G h.2)) fun _ _ => rfl
    · cases h
/-- the suite's context -/
theorem Gd.suite (G : Gd pg T xa fa n c L hx W X) {h : Hx} {oe : Obj} {pn : List (Addr × Obj)} {xk : Nat} {fl : Flds} {i : Option Nat} (hk : xk < pg.live) (hi : h.i = i) (hX : HotX (X.suite h.a ((h.a, oe) :: pn)) (xa xk) h) :
    Gd pg T xa fa n { c with x := some (xk, fl) } ⟨L.N, L.sc, L.own, some i, false⟩ (some h) WF (X.suite h.a ((h.a, oe) :: pn)) where
  hN := G.hN
  hsc := G.hsc
  nd := G.nd
  kd := G.kd
  un := G.un
  fnl := G.fnl
  tk := takesF
  tab := G.tab
  cool := fun z => by cases z
  fns := G.fns
  rq := G.rq
  hotF := fun j z => by
    cases z
    exact ⟨h, xk, fl, rfl, rfl, hk, hi, hX⟩
  dfF := fun z => by cases z
theorem Gd.tr (G : Gd pg T xa fa n c L hx W X) (hd : L.df = true) {W' : WX} {pn : List (Addr × Obj)} {xe : Value → Shared → Prop} (tk : Takes (X.tr pn xe) W') (po : PassesOwn (model X.prog X.w) X.A X.env xe) : Gd pg T xa fa n c L hx W' (X.tr pn xe) where
  hN := G.hN
  hsc := G.hsc
  nd := G.nd
  kd := G.kd
  un := G.un
  fnl := G.fnl
  tk := tk
  tab := G.tab
  cool := G.cool
  fns := G.fns
  rq := G.rq
  hotF := fun j z => by
    have q := (G.dfF hd).2.2.2
    rw [q] at z
    cases z
  dfF := fun z => ⟨po, (G.dfF z).2⟩
theorem snd_hs (ih : SndAt pg T xa fa n) (Γ : Gd pg T xa fa n c L hx W X) : ∀ {k : Nat} {hds : List ExceptHandler} {hs : List (Nat × Option Nat × List S)}, chkHs T k L hds hs = true → ClOk X xa pg (fun b k fl => (sys pg n).ss { c with x := some (k, fl) } b) hds hs := by
  intro k
  induction k with
  | zero => intro hds hs h; cases h
  | succ k ihk =>
    intro hds hs h
    unfold chkHs at h
    split at h
    · exact .nil
    · simp only [Bool.and_eq_true, decide_eq_true_eq] at h
      obtain ⟨h1, h2, h3, h4, h5⟩ := h
      obtain ⟨a1, a2⟩ := Γ.tab.xc _ _ h1
      exact .cons (.inl ⟨rfl, rfl⟩) (Γ.gl h2) a1 h3 a2 (fun xk fl hh oe pn hk hi hX => ih.ss (Γ.suite (fl := fl) hk hi hX) h4) (ihk h5)
    · simp only [Bool.and_eq_true, decide_eq_true_eq] at h
      obtain ⟨h0, h1, h2, h3, h4, h5⟩ := h
      obtain ⟨l1, l2, l3⟩ := Γ.lcl h0
      obtain ⟨a1, a2⟩ := Γ.tab.xc _ _ h1
      exact .cons (.inr ⟨_, _, rfl, rfl, l1, l2⟩) (Γ.gl h2) a1 h3 a2 (fun xk fl hh oe pn hk hi hX => ih.ss (Γ.suite (fl := fl) hk hi hX) h4) (ihk h5)
    · cases h
end
end LX

set_option Elab.async false
set_option linter.all false
set_option maxRecDepth 100000
set_option maxHeartbeats 4000000
/-! LxSnd4: soundness of statements, of defs. -/
namespace LX
open PySem L2 PyProof.Rows
section
variable {pg : Pg} {T : Tb} {xa fa : Nat → Addr} {n k : Nat} {c : Cf} {L : Sc} {hx : Option Hx} {W : WX} {X : Cx} {e : Expr} {es : List Expr} {st : Stmt} {sts : List Stmt} {η : Option (Nat × Flds)}
theorem clause1 {k j : Nat} {i : Option Nat} {b : List S} {xc : Xc} (h : pg.xcs[k]? = some xc) : clause pg k [(j, i, b)] = if j ∈ xc.up then some (i, b) else none := by
  unfold clause
  rw [h]
  dsimp only
  split
  · rfl
  · rfl
theorem snd_s (ihs : ∀ m, m ≤ n → SndAt pg T xa fa m) (Γ : Gd pg T xa fa (n + 1) c L hx W X) {ir : S} (h : chkS T k L st ir = true) : PS X st (tS X.K W xa hx c.x (stepS pg (sys pg n) c ir)) := by
  have Γ' := Γ.down (Nat.le_succ n)
  have ih := ihs n (Nat.le_refl n)
  cases k with
  | zero => cases h
  | succ k =>
    unfold chkS at h
    cases ir with
    | expr e =>
      dsimp only at h
      split at h
      · simp only [Bool.and_eq_true, Bool.not_eq_true'] at h
        exact PS.eqf (s_expr (ih.e Γ' h.2) (swaps_of h.1)) fun _ _ => rfl
      · cases h
    | ret e =>
      dsimp only at h
      split at h
      · exact PS.eqf (s_ret (ih.e Γ' h)) fun _ _ => rfl
      · cases h
    | retN =>
      dsimp only at h
      split at h
      · exact PS.eqf s_retN fun _ _ => rfl
      · cases h
    | pass =>
      dsimp only at h
      split at h
      · exact PS.eqf s_pass fun _ _ => rfl
      · cases h
    | brk =>
      dsimp only at h
      split at h
      · exact PS.eqf s_brk fun _ _ => rfl
      · cases h
    | cont =>
      dsimp only at h
      split at h
      · exact PS.eqf s_cont fun _ _ => rfl
      · cases h
    | set i e =>
      dsimp only at h
      split at h
      · rename_i y py elt gs scope pos sp
        rw [Bool.and_eq_true, Bool.or_eq_true] at h
        obtain ⟨h1, h2⟩ := h
        rcases h1 with h1 | h1
        · unfold setLcC at h1
          simp only [Bool.and_eq_true, Bool.not_eq_true'] at h1
          obtain ⟨h3, h4, h5⟩ := h1
          obtain ⟨l1, l2, l3⟩ := Γ.lcl h3
          -- the list comprehension itself
          cases k with
          | zero => cases h2
          | succ k =>
            unfold chkE at h2
            cases e with
            | lc m own tg it t te =>
              dsimp only at h2
              split at h2
              · rename_i elt' tgE iter ifs scope' pos' heq
                cases heq
                cases n with
                | zero =>
                  have z : stepS pg (sys pg 0) c (.set i (.lc m own tg it t te)) = fun _ _ => .stuck := rfl
                  rw [z]
                  exact ⟨fun _ _ _ _ _ _ ⟨_, _, _, _, q⟩ => q.elim⟩
                | succ n =>
                  obtain ⟨q1, q2, q3, a3, a4, a5, ho, a6, a7, a8, a9⟩ := snd_lc (ihs n (Nat.le_succ n)) (Γ'.down (Nat.le_succ n)) h2
                  rw [q1, q2]
                  refine PS.eqf (ps_setLc' (mb := m) q3 Γ.nd l1 l2 (sw_true Γ.kd l2 h4 h5) a3 a4 a5 a6 a7 a8 a9) fun _ _ => ?_
                  rw [ho]
                  rfl
              · cases h2
            | _ => cases h2
        · rw [Bool.and_eq_true, Bool.or_eq_true, Bool.not_eq_true', decide_eq_true_eq] at h1
          obtain ⟨h3, h4⟩ := h1
          obtain ⟨l1, l2, l3, l4⟩ := Γ.loc h3
          refine PS.eqf (s_set Γ.nd l1 l2 l3 l4 (ih.e Γ' h2) ?_) fun _ _ => rfl
          rcases h4 with h4 | h4
          · unfold swapsWith
            simp only [Expr.pos, h4, Bool.and_false, Bool.false_and]
          · have hk : (X.env.kindOf y == some .local) = false := by
              have e : X.env.kindOf y = some .cell := by
                rw [← Γ.hsc] at h4
                exact h4
              rw [e]
              rfl
            unfold swapsWith
            simp only [hk, Bool.and_false, Bool.false_and]
      · simp only [Bool.and_eq_true, Bool.not_eq_true'] at h
        obtain ⟨h1, h2, h3⟩ := h
        obtain ⟨l1, l2, l3, l4⟩ := Γ.loc h1
        exact PS.eqf (s_set Γ.nd l1 l2 l3 l4 (ih.e Γ' h3) (swaps_of h2)) fun _ _ => rfl
      · cases h
    | unp is e =>
      dsimp only at h
      split at h
      · rename_i ts k1 p1 x sp
        simp only [Bool.and_eq_true, Bool.not_eq_true'] at h
        obtain ⟨h1, h2, h3, h4, h5⟩ := h
        obtain ⟨q0, q1, q2, q3, q4⟩ := Γ.cold h1
        have h2' : (decide (is.length = ts.length) && (is.zip ts).all fun p => match p.2 with
          | .Name x _ => locC L x p.1
          | _ => false) = true := h2
        rw [Bool.and_eq_true, decide_eq_true_eq] at h2'
        obtain ⟨g1, g2, g3, g4⟩ := snd_names Γ h2'.2 h2'.1
        refine PS.eqf (s_unp q3 h2'.1 g1 Γ.nd g3 g4 g2 (ih.e Γ' h5) (show swapsWith x (some (.Tuple ts k1 p1)) sp.line X.env = pure false from swaps_of h3) ?_) fun _ _ => rfl
        split at h4
        · exact swap_ok Γ.kd (by rw [Γ.hsc]; exact of_decide_eq_true h4)
        · rename_i hnt
          cases x with
          | Tuple vs k p => exact absurd rfl (hnt vs k p)
          | _ => rfl
      · cases h
    | unl is e =>
      dsimp only at h
      split at h
      · rename_i ts k1 p1 x sp
        simp only [Bool.and_eq_true, Bool.not_eq_true'] at h
        obtain ⟨h1, h2, h3, h4, h5⟩ := h
        obtain ⟨q0, q1, q2, q3, q4⟩ := Γ.cold h1
        have h2' : (decide (is.length = ts.length) && (is.zip ts).all fun p => match p.2 with
          | .Name x _ => locC L x p.1
          | _ => false) = true := h2
        rw [Bool.and_eq_true, decide_eq_true_eq] at h2'
        obtain ⟨g1, g2, g3, g4⟩ := snd_names Γ h2'.2 h2'.1
        refine PS.eqf (s_unl q3 h2'.1 g1 Γ.nd g3 g4 g2 (ih.e Γ' h5) (show swapsWith x (some (.Tuple ts k1 p1)) sp.line X.env = pure false from swaps_of h3) ?_) fun _ _ => rfl
        split at h4
        · exact swap_ok Γ.kd (by rw [Γ.hsc]; exact of_decide_eq_true h4)
        · rename_i hnt
          cases x with
          | Tuple vs k p => exact absurd rfl (hnt vs k p)
          | _ => rfl
      · cases h
    | par i j a b =>
      dsimp only at h
      split at h
      · simp only [Bool.and_eq_true, decide_eq_true_eq] at h
        obtain ⟨h1, h2, h3, h4, h5, h6, h7, h8, h9⟩ := h
        obtain ⟨q0, q1, q2, q3, q4⟩ := Γ.cold h1
        obtain ⟨l1, l2, l3⟩ := Γ.lcl h2
        obtain ⟨m1, m2, m3⟩ := Γ.lcl h3
        exact PS.eqf (s_par q3 Γ.nd l1 m1 h4 l2 m2 (ih.e Γ' h8) (ih.e Γ' h9) h5 h6 l3 m3 (swap_ok Γ.kd (by rw [Γ.hsc]; exact h7))) fun _ _ => rfl
      · cases h
    | par3 i j l a b d =>
      dsimp only at h
      split at h
      · simp only [Bool.and_eq_true, decide_eq_true_eq] at h
        obtain ⟨h1, h2, h3, h4, h5, h6, h7, h8, h9, h10, h11, h12, h13, h14⟩ := h
        obtain ⟨q0, q1, q2, q3, q4⟩ := Γ.cold h1
        obtain ⟨l1, l2, l3⟩ := Γ.lcl h2
        obtain ⟨m1, m2, m3⟩ := Γ.lcl h3
        obtain ⟨r1, r2, r3⟩ := Γ.lcl h4
        exact PS.eqf (s_par3 q3 Γ.nd l1 m1 r1 h5 h6 h7 l2 m2 r2 (ih.e Γ' h12) (ih.e Γ' h13) (ih.e Γ' h14) h8 h9 h10 l3 m3 r3 (swap_ok Γ.kd (by rw [Γ.hsc]; exact h11))) fun _ _ => rfl
      · cases h
    | put o i e =>
      dsimp only at h
      split at h
      · rename_i q j sp x pos
        simp only [Bool.and_eq_true, Bool.not_eq_true'] at h
        obtain ⟨h1, h2, h3, h4, h5⟩ := h
        refine PS.eqf (s_put (ih.e Γ' h4) (ih.e Γ' h5) (ih.e Γ' h3) (fun v => ?_) (show swapsWith x (some (.Subscript q j sp)) pos.line X.env = pure false from swaps_of h2)) fun _ _ => rfl
        cases j with
        | Slice l u s p => cases h1
        | _ => rfl
      · cases h
    | aug i o e =>
      dsimp only at h
      split at h
      · simp only [Bool.and_eq_true, decide_eq_true_eq] at h
        obtain ⟨rfl, h1, h2⟩ := h
        obtain ⟨l1, l2, l3, l4⟩ := Γ.loc h1
        exact PS.eqf (s_aug Γ.nd l1 l2 l3 l4 (ih.e Γ' h2)) fun _ _ => rfl
      · cases h
    | ite t a b =>
      dsimp only at h
      split at h
      · simp only [Bool.and_eq_true] at h
        obtain ⟨h1, h2, h3⟩ := h
        exact PS.eqf (s_ite (ih.t Γ' h1) (ih.ss Γ' h2) (ih.ss Γ' h3)) fun _ _ => rfl
      · cases h
    | wh t b =>
      dsimp only at h
      split at h
      · simp only [Bool.and_eq_true] at h
        obtain ⟨h1, h2, h3⟩ := h
        obtain ⟨po, _⟩ := Γ.dfF h1
        refine PS.eqf (s_wh (n := n + 1) (F := fun m => (sys pg m).s c (.wh t b)) (f := fun m => (sys pg m).e c t) (g := fun m => (sys pg m).ss c b) po (fun m hm => (ihs m (Nat.le_of_lt_succ hm)).t (Γ.down (Nat.le_of_lt hm)) h2) (fun m hm => (ihs m (Nat.le_of_lt_succ hm)).ss (Γ.down (Nat.le_of_lt hm)) h3) (fun _ _ => rfl) (fun m hm ρ M => rfl)) fun _ _ => rfl
      · cases h
    | «for» tg it b =>
      dsimp only at h
      split at h
      · simp only [Bool.and_eq_true, Bool.not_eq_true'] at h
        obtain ⟨h1, h2, h3, h4, h5⟩ := h
        obtain ⟨po, _, _, hh⟩ := Γ.dfF h1
        obtain ⟨_, _, q3, _⟩ := Γ.cool hh
        obtain ⟨g1, g2⟩ := snd_g Γ q3 h4
        exact PS.eqf (s_for po q3 (snd_i ih Γ' h3) g1 g2 (ih.ss Γ' h5) (fold_of h2)) fun _ _ => rfl
      · cases h
    | raise k es =>
      dsimp only at h
      split at h
      · simp only [Bool.and_eq_true, decide_eq_true_eq] at h
        obtain ⟨h1, h2, h3, h4, h5, h6⟩ := h
        obtain ⟨q0, q1, q2, q3, q4⟩ := Γ.cold h1
        obtain ⟨a1, a2⟩ := Γ.tab.xc _ _ h2.1
        have ex := List.getElem?_eq_getElem a2
        rw [q1, q2]
        have ha := ih.es Γ' h6
        rw [q1, q2] at ha
        obtain ⟨I, nd⟩ := Γ.tab.ini k h2.2 _ ex
        exact PS.eqf (s_raise (P := pg) q3 Γ.tk ex I nd (q4.mono (Nat.le_add_left 2 c.d)) (Γ.gl h3) a1 (nm_ok h4).1 ha (by rw [List.all_cons]; exact h5)) fun _ _ => rfl
      · cases h
    | «try» b hs =>
      dsimp only at h
      split at h
      · split at h
        · rename_i j i hb
          simp only [Bool.and_eq_true, decide_eq_true_eq] at h
          obtain ⟨h1, h2, h3, h4, h5, h6, h7⟩ := h
          obtain ⟨po, hst, hf, hh⟩ := Γ.dfF h1
          obtain ⟨q1, q2, q3, q4⟩ := Γ.cool hh
          obtain ⟨l1, l2, l3⟩ := Γ.lcl h2
          obtain ⟨a1, a2⟩ := Γ.tab.xc _ _ h3
          rw [q1, q2]
          refine PS.eqf (s_try1 (P := pg) (i := i) (j := j) (gb := (sys pg n).ss c b) (g := fun k fl => (sys pg n).ss { c with x := some (k, fl) } hb) Γ.tab.xt hst hf Γ.nd l1 l2 (Γ.gl h4) a1 h5 a2 Γ.tk (fun W' pn xe tk po => ?_) fun xk fl hh oe pn hk hi hX => ih.ss (Γ'.suite (fl := fl) hk hi hX) h7) fun ρ M => ?_
          · have z := ih.ss (Γ'.tr h1 tk po) h6
            rw [q1, q2] at z
            exact z
          · show _ = (match (sys pg n).ss c b ρ M with
              | .exn k fs ρ M => if k < pg.live then match clause pg k [(j, some i, hb)] with
                | some (n', b) => if slotIn n' ρ then ((sys pg n).ss { c with x := some (k, fs) } b (gone n' ρ) M).map (gone n') else .stuck
                | none => .exn k fs ρ M
                else .stuck
              | r => r)
            cases (sys pg n).ss c b ρ M with
            | exn xk fs ρ' M' =>
              dsimp only
              by_cases hk : xk < pg.live
              · have hk2 := Nat.lt_of_lt_of_le hk Γ.tab.xt.le
                rw [if_pos hk, if_pos hk, List.getElem?_eq_getElem hk2, clause1 (List.getElem?_eq_getElem hk2)]
                dsimp only
                split <;> rfl
              · rw [if_neg hk, if_neg hk]
            | _ => rfl
        · cases h
      · simp only [Bool.and_eq_true] at h
        obtain ⟨h1, h2, h3⟩ := h
        obtain ⟨po, hst, hf, hh⟩ := Γ.dfF h1
        obtain ⟨q1, q2, q3, q4⟩ := Γ.cool hh
        rw [q1, q2]
        refine PS.eqf (s_tryM (P := pg) (gb := (sys pg n).ss c b) (G := fun b k fl => (sys pg n).ss { c with x := some (k, fl) } b) Γ.tab.xt hst hf Γ.nd Γ.tk (fun W' pn xe tk po => ?_) (snd_hs ih Γ' h3)) fun ρ M => rfl
        have z := ih.ss (Γ'.tr h1 tk po) h2
        rw [q1, q2] at z
        exact z
      · cases h
theorem snd_n : ∀ n, SndAt pg T xa fa n := by
  intro n
  induction n using Nat.strongRecOn with
  | ind n ih =>
    cases n with
    | zero => exact snd_0
    | succ n =>
      have ihn := ih n (Nat.lt_succ_self n)
      exact {
        e := fun G h => snd_e ihn G h
        es := fun G h => snd_es ihn (G.down (Nat.le_succ n)) h
        ks := fun G h => snd_ks ihn (G.down (Nat.le_succ n)) h
        t := fun G h => (snd_t ihn G h).1
        tw := fun G h => (snd_t ihn G h).2 _ _ _ rfl
        s := fun G h => snd_s (fun m hm => ih m (Nat.lt_succ_of_le hm)) G h
        ss := fun G h => snd_ss ihn (G.down (Nat.le_succ n)) h }
end
end LX

set_option Elab.async false
set_option linter.all false
set_option maxRecDepth 100000
set_option maxHeartbeats 4000000
/-! LxFn: defs keep their promises. -/
namespace LX
open PySem L2 PyProof.Rows
section
variable {K : PySem.W.Frag} {H : Hp} {β : Bt} {N n : Nat}
mutual
theorem Rep.cut (h : n ≤ N) : ∀ {d : D} {v : V}, D.und n d = true → Rep K H β N d v → Rep K H β n d v
  | .non, _, _, r => r
  | .bl _, _, _, r => r
  | .int _, _, _, r => r
  | .str _, _, _, r => r
  | .tup xs, v, u, r => by
    unfold Rep at r ⊢
    obtain ⟨a, vs, rfl, q, rs⟩ := r
    exact ⟨a, vs, rfl, q, Reps.cut h u rs⟩
  | .tl xs, v, u, r => by
    unfold Rep at r ⊢
    obtain ⟨a, vs, rfl, q, hn, rs⟩ := r
    exact ⟨a, vs, rfl, q, ⟨fun j hj => hn.1 j (Nat.lt_of_lt_of_le hj h), hn.2⟩, Reps.cut h u rs⟩
  | .fl xs, v, u, r => by
    unfold Rep at r ⊢
    obtain ⟨a, vs, rfl, q, rs⟩ := r
    exact ⟨a, vs, rfl, q, Reps.cut h u rs⟩
  | .ref k, v, u, r => by
    unfold Rep at r ⊢
    exact ⟨of_decide_eq_true u, r.2⟩
  | .edic, v, u, r => by
    unfold Rep at r ⊢
    obtain ⟨a, rfl, q, hn⟩ := r
    exact ⟨a, rfl, q, ⟨fun j hj => hn.1 j (Nat.lt_of_lt_of_le hj h), hn.2⟩⟩
theorem Reps.cut (h : n ≤ N) : ∀ {ds : List D} {vs : List V}, D.undAll n ds = true → Reps K H β N ds vs → Reps K H β n ds vs
  | [], _, _, r => r
  | d :: ds, vs, u, r => by
    have u : (D.und n d && D.undAll n ds) = true := u
    rw [Bool.and_eq_true] at u
    unfold Reps at r ⊢
    obtain ⟨v, w, rfl, r1, r2⟩ := r
    exact ⟨v, w, rfl, Rep.cut h u.1 r1, Reps.cut h u.2 r2⟩
end
theorem HeapR.cut {M : MH} (hp : HeapR K H β M) (h : n ≤ M.length) (u : MH.und n (M.take n) = true) : HeapR K H β (M.take n) := by
  have hl : (M.take n).length = n := by rw [List.length_take]; omega
  refine ⟨fun j o e => ?_, fun a b ha hb => hp.inj a b (by omega) (by omega), hp.prot⟩
  rw [List.getElem?_take] at e
  split at e
  · have q := hp.cell j o e
    have uo : MO.und n o = true := List.all_eq_true.mp u o (List.mem_iff_getElem?.mpr ⟨j, by rw [List.getElem?_take, if_pos (by assumption)]; exact e⟩)
    rw [hl]
    cases o with
    | lst xs =>
      obtain ⟨vs, q, r⟩ := q
      exact ⟨vs, q, Reps.cut h uo r⟩
  · cases e
theorem Ext.cut {β' : Bt} {N' : Nat} {H' : Hp} (e : Ext β N H β' N' H') : Ext β N H β' N H' := ⟨Nat.le_refl _, e.agree, e.fr, fun n h1 h2 => absurd h2 (Nat.not_lt.mpr h1), e.tr, e.pp⟩
theorem freeze_read {W : WX} {xa : Nat → Addr} {σ0 : L2.St} {Q : VK} {M' : MH} {d : D} (hN : ∀ a, a ∈ β.p → H a ≠ none) (q : Post K W xa (RD K) σ0 H β N (freeze N d M') Q) : ∀ β' H' v, Ext β N H β' M'.length H' → HeapR K H' β' M' → Rep K H' β' M'.length d v → Q v H' := by
  intro β' H' v e hp r
  have hl : (M'.take N).length = N := by rw [List.length_take]; have := e.le; omega
  have plain : ∀ d', freeze N d M' = (if D.und N d' && MH.und N (M'.take N) then .ok d' (M'.take N) else .stuck) → Rep K H' β' M'.length d' v → Q v H' := fun d' h r' => by
    rw [h] at q
    by_cases hu : (D.und N d' && MH.und N (M'.take N)) = true
    · rw [if_pos hu] at q
      rw [Bool.and_eq_true] at hu
      exact q β' H' v (by rw [hl]; exact e.cut) (hp.cut e.le hu.2) (by show Rep _ _ _ _ _ _; rw [hl]; exact Rep.cut e.le hu.1 r')
    · rw [if_neg hu] at q
      exact q.elim
  cases d with
  | ref k =>
    unfold freeze at q
    dsimp only at q
    by_cases hk : k < N
    · rw [if_pos hk] at q
      by_cases hu : MH.und N (M'.take N) = true
      · rw [if_pos hu] at q
        exact q β' H' v (by rw [hl]; exact e.cut) (hp.cut e.le hu) (by show Rep _ _ _ _ _ _; rw [hl]; exact Rep.cut e.le (decide_eq_true hk) r)
      · rw [if_neg hu] at q
        exact q.elim
    · rw [if_neg hk] at q
      cases f : lstAt M' k with
      | none => rw [f] at q; exact q.elim
      | some xs =>
        rw [f] at q
        dsimp only at q
        by_cases hu : (D.undAll N xs && MH.und N (M'.take N)) = true
        · rw [if_pos hu] at q
          rw [Bool.and_eq_true] at hu
          obtain ⟨hn, vs, h1, h2⟩ := hp.lst f
          unfold Rep at r
          obtain ⟨_, rfl⟩ := r
          refine q β' H' (.ref (β' k)) (by rw [hl]; exact e.cut) (hp.cut e.le hu.2) ?_
          show Rep _ _ _ _ _ _
          unfold Rep
          refine ⟨β' k, vs, rfl, h1, ⟨fun j hj z => ?_, fun z => ?_⟩, by rw [hl]; exact Reps.cut e.le hu.1 h2⟩
          · rw [hl] at hj
            have := hp.inj j k (Nat.lt_of_lt_of_le hj e.le) hn z
            omega
          · rw [e.pp] at z
            exact hN _ z (e.new k (Nat.le_of_not_lt hk) hn)
        · rw [if_neg hu] at q
          exact q.elim
  | _ => exact plain _ rfl r
/-- a def's end -/
theorem end_read {xa : Nat → Addr} {Q : VK} {fz : Bool} {r : SRes} {M : MH} {σ0 : L2.St} {E : XK} (hp : HeapR K H β M) (q : Post K (fun cls d _ H' => E cls d H') xa (RD K) σ0 H β M.length (endF fz M.length r) Q) :
    PostS K (fun cls d _ H' => E cls d H') xa none none H β M.length r { nx := fun _ H' => Q .non H', rt := Q } := by
  cases r with
  | rt d M' =>
    cases fz with
    | false => exact q
    | true => exact freeze_read hp.prot q
  | nx ρ M' =>
    cases fz with
    | false => exact fun β' H' σ' e s => q β' H' .non e s.heap rfl
    | true => exact fun β' H' σ' e s => freeze_read hp.prot (d := .non) q β' H' .non e s.heap rfl
  | exn k fs ρ M' =>
    cases fz with
    | false => exact fun β' H' σ' dx fvs e s a b => q β' H' dx fvs e s.heap a b
    | true =>
      intro β' H' σ' dx fvs e s a b
      have q : Post K (fun cls d _ H' => E cls d H') xa (RD K) σ0 H β M.length (if D.undAll M.length (fs.map (·.2)) && MH.und M.length (M'.take M.length) then .exn k fs (M'.take M.length) else .stuck) Q := q
      have hl : (M'.take M.length).length = M.length := by rw [List.length_take]; have := e.le; omega
      by_cases hu : (D.undAll M.length (fs.map (·.2)) && MH.und M.length (M'.take M.length)) = true
      · rw [if_pos hu] at q
        rw [Bool.and_eq_true] at hu
        refine q β' H' dx fvs (by rw [hl]; exact e.cut) (s.heap.cut e.le hu.2) a fun f d hf => ?_
        obtain ⟨v, h1, h2⟩ := b f d hf
        refine ⟨v, h1, ?_⟩
        rw [hl]
        refine Rep.cut e.le ?_ h2
        have mem : ∀ {l : Flds}, l.lookup f = some d → D.undAll M.length (l.map (·.2)) = true → D.und M.length d = true := by
          intro l
          induction l with
          | nil => intro z; cases z
          | cons p l ih =>
            intro z u
            obtain ⟨g, y⟩ := p
            have u : (D.und M.length y && D.undAll M.length (l.map (·.2))) = true := u
            rw [Bool.and_eq_true] at u
            have z : (match f == g with
              | true => some y
              | false => l.lookup f) = some d := z
            split at z
            · cases z
              exact u.1
            · exact ih z u.2
        exact mem hf hu.1
      · rw [if_neg hu] at q
        exact q.elim
  | bk ρ M' => exact q.elim
  | ct ρ M' => exact q.elim
  | stuck => exact q.elim
theorem Reps.get' : ∀ {ds : List D} {vs : List V} {i : Nat} {d : D}, Reps K H β N ds vs → ds[i]? = some d → ∃ v, vs[i]? = some v ∧ Rep K H β N d v
  | [], _, _, _, _, h => by simp at h
  | d :: ds, vs, 0, e, r, h => by
    obtain ⟨v, w, rfl, r1, _⟩ := r.consI
    cases h
    exact ⟨v, rfl, r1⟩
  | d :: ds, vs, i + 1, e, r, h => by
    obtain ⟨v, w, rfl, _, r2⟩ := r.consI
    obtain ⟨u, h1, h2⟩ := Reps.get' (i := i) r2 (by simpa using h)
    exact ⟨u, by simpa using h1, h2⟩
theorem start_env {ds : List D} {vs : List V} {NN : List Str} {ns : Nat} (r : Reps K H β N ds vs) (h : NN.length = ns) (hl : ds.length ≤ ns) : EnvR K H β N (startE ns ds) (L2.start NN vs) := by
  have hv : vs.length = ds.length := r.length
  refine ⟨?_, fun i d e => ?_⟩
  · unfold startE L2.start
    rw [List.length_append, List.length_append, List.length_map, List.length_map, List.length_replicate, List.length_replicate, h, hv]
  · unfold startE at e
    by_cases hi : i < ds.length
    · rw [List.getElem?_append_left (by rw [List.length_map]; exact hi), List.getElem?_map] at e
      cases f : ds[i]? with
      | none => rw [f] at e; cases e
      | some d' =>
        rw [f] at e
        cases e
        obtain ⟨v, h1, h2⟩ := Reps.get' r f
        exact ⟨v, start_get h1, h2⟩
    · rw [List.getElem?_append_right (by rw [List.length_map]; omega)] at e
      rw [List.getElem?_replicate] at e
      split at e <;> cases e
end
theorem eq_f {pg : Pg} {d f n : Nat} {t : Fn} (hf : pg.fns[f]? = some t) (ds : List D) (M : MH) : (sys pg (n + 1)).f (d + 1) f ds M = if ds.length = t.np then endF t.fz M.length ((sys pg n).ss ⟨d, none⟩ t.body (startE t.ns ds) M) else .stuck := by
  show stepF pg (sys pg n) (d + 1) f ds M = _
  unfold stepF
  rw [hf]
/-- a def's facts with its own record -/
def FnJ (K : PySem.W.Frag) (T : Tb) (fa : Nat → Addr) (f : Nat) (t : Fn) (fd : FuncData) (ps : List Str) : Prop :=
  ∃ x qual st N, Fun K x qual st (fa f) fd ∧ FnScope N ps (defScope st) ∧ Binds K fd ps [] ∧ ps.length = t.np ∧ N.length = t.ns ∧ t.np ≤ t.ns ∧ AllI (fun _ q => q.1 = f → KBq K fd ps q.2.1 q.2.2) 0 T.kbs ∧ ∃ k, chkSs T k ⟨N, defScope st, defScope st, none, true⟩ (defBody st) t.body = true
theorem fn_one {P : Program} {w : World} {K : PySem.W.Frag} {mg : Str → Option Value} {base : Heap} {pg : Pg} {T : Tb} {xa fa : Nat → Addr} (tab : Tab w K mg pg T xa fa) {n d : Nat} (ih : ∀ m, m < n → ∀ d f t, pg.fns[f]? = some t → FnG P w K mg base T xa fa d f t ((sys pg m).f d f)) {f : Nat} {t : Fn} (hf : pg.fns[f]? = some t) {fd : FuncData} {ps : List Str} (J : FnJ K T fa f t fd ps) :
    FnOk P w K mg base (L2.CX P w) (d + 2) (fa f) fd ps (spF K xa t.np ((sys pg n).f d f)) ∧ ∀ ds M, (sys pg n).f d f ds M ≠ .stuck → ds.length = t.np := by
  obtain ⟨x, qual, st, N, F1, S, hb, h1, h2, h3, hkb, k, hc⟩ := J
  have stk : ∀ (F : List D → MH → Res D), (∀ ds M, F ds M = .stuck) → FnOk P w K mg base (L2.CX P w) (d + 2) (fa f) fd ps (spF K xa t.np F) ∧ ∀ ds M, F ds M ≠ .stuck → ds.length = t.np := fun F hF => by
    refine ⟨⟨fun vs H Q E q => q.1.trans h1.symm, fun A outer s H args us vs Q E hr e0 hb hv ⟨_, β, M, ds, hp, r, q⟩ => ?_⟩, fun ds M z => absurd (hF ds M) z⟩
    rw [hF] at q
    exact q.elim
  cases n with
  | zero => exact stk _ fun _ _ => rfl
  | succ n =>
    cases d with
    | zero => exact stk _ fun _ _ => rfl
    | succ d =>
      refine ⟨F1.okX S (fun vs H Q E q => q.1.trans h1.symm) fun cdv A outer s H vs Q E hr ⟨hl, β, M, ds, hp, r, q⟩ => ?_, fun ds M z => ?_⟩
      · refine ⟨_, (snd_n n).ss (W := fun cls d _ H => E cls d H) (hx := none) (c := ⟨d, none⟩) (L := ⟨N, defScope st, defScope st, none, true⟩) {
            hN := rfl
            hsc := rfl
            nd := S.nd
            kd := S.kind
            un := by
              have z := hr.un
              show (A.deeper (envOfC qual (defScope st) s.heap.objs.size (fa f) cdv)).units + 65 < cLine
              omega
            fnl := fun x h => ⟨h, .inl rfl⟩
            tk := L2.takes_of rfl rfl rfl rfl
            tab := tab
            cool := fun _ => ⟨rfl, rfl, rfl, hr⟩
            fns := fun m hm d' _ f t hf => ih m (Nat.lt_succ_of_le hm) d' f t hf
            rq := by
              have z1 := hr.dp
              have z2 := hr.un
              constructor
              · show (A.deeper (envOfC qual (defScope st) s.heap.objs.size (fa f) cdv)).depth + 3 * d + 8 < recursionLimit
                omega
              · show (A.deeper (envOfC qual (defScope st) s.heap.objs.size (fa f) cdv)).units + 16 * d + 100 < cLine
                omega
            hotF := fun i z => by cases z
            dfF := fun _ => ⟨L2.passes_of rfl, rfl, rfl, rfl⟩ } hc, ?_⟩
        rw [eq_f hf] at q
        have hd : ds.length = t.np := by rw [← r.length]; exact hl
        rw [if_pos hd] at q
        exact ⟨β, startE t.ns ds, M, ⟨start_env r h2 (by omega), hp, trivial⟩, end_read hp q⟩
      · rw [eq_f hf] at z
        by_cases hd : ds.length = t.np
        · exact hd
        · rw [if_neg hd] at z
          exact absurd rfl z
theorem fn_ok {P : Program} {w : World} {K : PySem.W.Frag} {mg : Str → Option Value} {base : Heap} {pg : Pg} {T : Tb} {xa fa : Nat → Addr} (tab : Tab w K mg pg T xa fa) (I : ∀ f t, pg.fns[f]? = some t → ∃ fd ps, FnJ K T fa f t fd ps) :
    ∀ n d f t, pg.fns[f]? = some t → FnG P w K mg base T xa fa d f t ((sys pg n).f d f) := by
  intro n
  induction n using Nat.strongRecOn with
  | ind n ih =>
    intro d f t hf
    obtain ⟨fd, ps, J⟩ := I f t hf
    obtain ⟨h1, h2⟩ := fn_one (P := P) (w := w) (base := base) (n := n) (d := d) tab ih hf J
    obtain ⟨_, _, _, _, _, _, hb, _, _, _, hkb, _⟩ := J
    exact ⟨fd, ps, h1, hb, fun q hq => AllI.mem (P := fun q => q.1 = f → KBq K fd ps q.2.1 q.2.2) hkb hq, h2⟩
end LX

set_option Elab.async false
set_option linter.all false
set_option maxRecDepth 100000
set_option maxHeartbeats 2000000
/-! LxLim: the steps without a bound. -/
namespace LX
open PySem L2 PyProof.Rows
/-- less told, or the same -/
def LeR {α : Type} (a b : Res α) : Prop := a = .stuck ∨ a = b
def LeS (a b : SRes) : Prop := a = .stuck ∨ a = b
theorem LeR.refl {α : Type} (a : Res α) : LeR a a := .inr rfl
theorem LeS.refl (a : SRes) : LeS a a := .inr rfl
theorem LeR.bot {α : Type} (a : Res α) : LeR .stuck a := .inl rfl
theorem LeS.bot (a : SRes) : LeS .stuck a := .inl rfl
theorem LeR.bind {α γ : Type} {a b : Res α} {f g : α → MH → Res γ} (h : LeR a b) (k : ∀ x M, LeR (f x M) (g x M)) : LeR (a.bind f) (b.bind g) := by
  rcases h with rfl | rfl
  · exact .inl rfl
  · cases a with
    | ok x M => exact k x M
    | exn c fs M => exact .refl _
    | stuck => exact .refl _
theorem LeR.sbind {α : Type} {a b : Res α} {ρ : Env} {f g : α → MH → SRes} (h : LeR a b) (k : ∀ x M, LeS (f x M) (g x M)) : LeS (a.sbind ρ f) (b.sbind ρ g) := by
  rcases h with rfl | rfl
  · exact .inl rfl
  · cases a with
    | ok x M => exact k x M
    | exn c fs M => exact .refl _
    | stuck => exact .refl _
theorem LeS.sbind {a b : SRes} {f g : Env → MH → SRes} (h : LeS a b) (k : ∀ x M, LeS (f x M) (g x M)) : LeS (a.sbind f) (b.sbind g) := by
  rcases h with rfl | rfl
  · exact .inl rfl
  · cases a with
    | nx ρ M => exact k ρ M
    | _ => exact .refl _
theorem LeR.tst {a b : Res D} {f g : Bool → MH → Res D} (h : LeR a b) (k : ∀ x M, LeR (f x M) (g x M)) : LeR (tst a f) (tst b g) := LeR.bind h fun x M => LeR.bind (.refl _) k
theorem LeR.noExn {α : Type} {a b : Res α} (h : LeR a b) : LeR (LX.noExn a) (LX.noExn b) := by
  rcases h with rfl | rfl
  · exact .inl rfl
  · exact .refl _
theorem LeR.endF {fz : Bool} {n : Nat} {a b : SRes} (h : LeS a b) : LeR (LX.endF fz n a) (LX.endF fz n b) := by
  rcases h with rfl | rfl
  · exact .inl rfl
  · exact .refl _
theorem LeS.map {f : Env → Env} {a b : SRes} (h : LeS a b) : LeS (a.map f) (b.map f) := by
  rcases h with rfl | rfl
  · exact .inl rfl
  · exact .refl _
theorem LeR.hres {a b : SRes} (h : LeS a b) : LeR (LX.hres a) (LX.hres b) := by
  rcases h with rfl | rfl
  · exact .inl rfl
  · exact .refl _
structure LeY (u v : Sys) : Prop where
  e : ∀ c x ρ M, LeR (u.e c x ρ M) (v.e c x ρ M)
  es : ∀ c x ρ M, LeR (u.es c x ρ M) (v.es c x ρ M)
  s : ∀ c x ρ M, LeS (u.s c x ρ M) (v.s c x ρ M)
  ss : ∀ c x ρ M, LeS (u.ss c x ρ M) (v.ss c x ρ M)
  f : ∀ d f ds M, LeR (u.f d f ds M) (v.f d f ds M)
section
variable {s t : Sys} (h : LeY s t) {P : Pg} {c : Cf}
include h
theorem le_it {it : E} {ρ : Env} {M : MH} : LeR (itE s c it ρ M) (itE t c it ρ M) := by
  unfold itE
  split
  · exact LeR.bind (h.e ..) fun x M => .refl _
  · exact LeR.bind (h.e ..) fun x M => LeR.bind (h.e ..) fun y M => .refl _
  · exact LeR.bind (h.e ..) fun x M => LeR.bind (h.e ..) fun y M => LeR.bind (h.e ..) fun z M => .refl _
  · exact LeR.bind (h.e ..) fun x M => LeR.bind (h.e ..) fun y M => .refl _
  · exact LeR.bind (h.e ..) fun x M => .refl _
theorem le_tests {o : Option E} {ρ : Env} {M : MH} : LeR (tests s c o ρ M) (tests t c o ρ M) := by
  cases o with
  | none => exact .refl _
  | some e => exact LeR.bind (h.e ..) fun x M => .refl _
theorem le_opt {o : Option E} {ρ : Env} {M : MH} : LeR (optE s c o ρ M) (optE t c o ρ M) := by
  cases o with
  | none => exact .refl _
  | some e => exact LeR.bind (h.e ..) fun x M => .refl _
theorem le_lc {g : G} {all : List D} {k : Option Nat} {o : Option E} {e : E} {ρ : Env} : ∀ {l acc : List D} {M : MH}, LeR (lcL s c g all k o e ρ l acc M) (lcL t c g all k o e ρ l acc M)
  | [], acc, M => .refl _
  | x :: xs, acc, M => by
    unfold lcL
    split
    · refine LeR.bind (.refl _) fun ρ' M => LeR.bind (le_tests h) fun b M => ?_
      cases b with
      | true => exact LeR.bind (h.e ..) fun d M => (by
          try dsimp only
          split
          · exact le_lc
          · exact .refl _)
      | false => exact le_lc
    · exact .refl _
theorem le_for {g : G} {all : List D} {k : Option Nat} {b : List S} : ∀ {l : List D} {ρ : Env} {M : MH}, LeS (forL s c g all k b l ρ M) (forL t c g all k b l ρ M)
  | [], ρ, M => .refl _
  | x :: xs, ρ, M => by
    unfold forL
    split
    · cases bindG g x ρ with
      | none => exact .refl _
      | some ρ' =>
        dsimp only
        rcases h.ss c b ρ' M with e | e
        · rw [e]
          exact .bot _
        · rw [e]
          cases t.ss c b ρ' M with
          | nx ρ M => exact le_for
          | ct ρ M => exact le_for
          | _ => exact .refl _
    · exact .refl _
theorem le_step : LeY (step P s) (step P t) where
  e := fun c x ρ M => by
    show LeR (stepE P s c x ρ M) (stepE P t c x ρ M)
    cases x with
    | tup es => exact LeR.bind (h.es ..) fun _ _ => .refl _
    | lst m es => exact LeR.bind (h.es ..) fun _ _ => .refl _
    | bin m o a b => exact LeR.bind (h.e ..) fun _ _ => LeR.bind (h.e ..) fun _ _ => .refl _
    | neg a => exact LeR.bind (h.e ..) fun _ _ => .refl _
    | cmp o a b => exact LeR.bind (h.e ..) fun _ _ => LeR.bind (h.e ..) fun _ _ => .refl _
    | chain o p a b e =>
      exact LeR.bind (h.e ..) fun _ _ => LeR.bind (h.e ..) fun _ _ => LeR.bind (.refl _) fun k _ => (by
        cases k with
        | true => exact LeR.bind (h.e ..) fun _ _ => .refl _
        | false => exact .refl _)
    | and a b =>
      exact LeR.tst (h.e ..) fun k _ => (by
        cases k with
        | true => exact LeR.tst (h.e ..) fun _ _ => .refl _
        | false => exact .refl _)
    | or a b =>
      exact LeR.tst (h.e ..) fun k _ => (by
        cases k with
        | true => exact .refl _
        | false => exact LeR.tst (h.e ..) fun _ _ => .refl _)
    | not a => exact LeR.tst (h.e ..) fun _ _ => .refl _
    | ite b a e =>
      exact LeR.tst (h.e ..) fun k _ => (by
        cases k with
        | true => exact h.e ..
        | false => exact h.e ..)
    | truth a => exact LeR.bind (h.e ..) fun _ _ => .refl _
    | call f es => exact LeR.bind (h.es ..) fun _ _ => h.f ..
    | fn m b es => exact LeR.bind (h.es ..) fun _ _ => .refl _
    | meth u o es =>
      exact LeR.bind (h.e ..) fun x M => (by
        try dsimp only
        split
        · exact LeR.bind (h.es ..) fun _ _ => .refl _
        · exact .refl _)
    | ix a i => exact LeR.bind (h.e ..) fun _ _ => LeR.bind (h.e ..) fun _ _ => .refl _
    | cut m a lo hi => exact LeR.bind (h.e ..) fun _ _ => LeR.bind (le_opt h) fun _ _ => LeR.bind (le_opt h) fun _ _ => .refl _
    | rev m a => exact LeR.bind (h.e ..) fun _ _ => .refl _
    | stp a lo => exact LeR.bind (h.e ..) fun _ _ => LeR.bind (le_opt h) fun _ _ => .refl _
    | lrng m a => exact LeR.bind (h.e ..) fun _ _ => .refl _
    | lower a => exact LeR.bind (h.e ..) fun _ _ => .refl _
    | lset a => exact LeR.bind (h.e ..) fun _ _ => .refl _
    | srts a => exact LeR.bind (h.e ..) fun _ _ => .refl _
    | callk f n pm es =>
      exact LeR.bind (h.es ..) fun ds M => (by
        try dsimp only
        split
        · exact h.f ..
        · exact .refl _)
    | hcall q =>
      obtain ⟨d, cx⟩ := c
      cases d with
      | zero => exact .refl _
      | succ d =>
        cases cx with
        | none => exact .refl _
        | some y =>
          cases hq : P.qns[q]? with
          | none =>
            have z : ∀ s : Sys, stepE P s ⟨d + 1, some y⟩ (.hcall q) ρ M = .stuck := fun s => by simp only [stepE, hq]
            rw [z, z]
            exact .refl _
          | some w =>
            have z : ∀ s : Sys, stepE P s ⟨d + 1, some y⟩ (.hcall q) ρ M = hres (s.ss ⟨d, some y⟩ w.2 (List.replicate w.1 none) M) := fun s => by simp only [stepE, hq]
            rw [z, z]
            exact LeR.hres (h.ss ..)
    | lc m own g it o e => exact LeR.bind (le_it h) fun _ _ => LeR.bind (LeR.noExn (le_lc h)) fun _ _ => .refl _
    | isi ks a => exact LeR.bind (h.e ..) fun _ _ => .refl _
    | call0 f => exact LeR.noExn (h.f ..)
    | tget kvs a b =>
      exact LeR.bind (h.e ..) fun x M => (by
        try dsimp only
        split
        · exact LeR.bind (h.e ..) fun _ _ => .refl _
        · exact .refl _)
    | sm m k a b =>
      exact LeR.bind (h.e ..) fun x M => (by
        try dsimp only
        split
        · exact LeR.bind (h.e ..) fun _ _ => .refl _
        · exact .refl _)
    | _ => exact .refl _
  es := fun c x ρ M => by
    show LeR (stepEs s c x ρ M) (stepEs t c x ρ M)
    cases x with
    | nil => exact .refl _
    | cons e es => exact LeR.bind (h.e ..) fun _ _ => LeR.bind (h.es ..) fun _ _ => .refl _
  s := fun c x ρ M => by
    show LeS (stepS P s c x ρ M) (stepS P t c x ρ M)
    cases x with
    | expr e => exact LeR.sbind (h.e ..) fun _ _ => .refl _
    | ret e => exact LeR.sbind (h.e ..) fun _ _ => .refl _
    | set i e => exact LeR.sbind (h.e ..) fun _ _ => .refl _
    | unp is e => exact LeR.sbind (h.e ..) fun _ _ => .refl _
    | unl is e => exact LeR.sbind (h.e ..) fun _ _ => .refl _
    | par i j a b => exact LeR.sbind (h.e ..) fun _ _ => LeR.sbind (h.e ..) fun _ _ => .refl _
    | par3 i j k a b e => exact LeR.sbind (h.e ..) fun _ _ => LeR.sbind (h.e ..) fun _ _ => LeR.sbind (h.e ..) fun _ _ => .refl _
    | put o i e => exact LeR.sbind (h.e ..) fun _ _ => LeR.sbind (h.e ..) fun _ _ => LeR.sbind (h.e ..) fun _ _ => .refl _
    | aug i o e =>
      show LeS (match ρ[i]? with
        | some (some x) => _
        | _ => _) (match ρ[i]? with
        | some (some x) => _
        | _ => _)
      split
      · exact LeR.sbind (h.e ..) fun _ _ => .refl _
      · exact .refl _
    | ite b a e =>
      exact LeR.sbind (h.e ..) fun d _ => (by
        try dsimp only
        split
        · exact h.ss ..
        · exact h.ss ..
        · exact .refl _)
    | wh o b =>
      exact LeR.sbind (h.e ..) fun d M => (by
        try dsimp only
        split
        · rcases h.ss c b ρ M with e | e
          · rw [e]
            exact .bot _
          · rw [e]
            cases t.ss c b ρ M with
            | nx ρ M => exact h.s ..
            | ct ρ M => exact h.s ..
            | _ => exact .refl _
        · exact .refl _
        · exact .refl _)
    | «for» g it b => exact LeR.sbind (le_it h) fun _ _ => le_for h
    | raise k es => exact LeR.sbind (h.es ..) fun _ _ => .refl _
    | «try» b hs =>
      show LeS (match s.ss c b ρ M with
        | .exn k fs ρ M => _
        | r => r) (match t.ss c b ρ M with
        | .exn k fs ρ M => _
        | r => r)
      rcases h.ss c b ρ M with e | e
      · rw [e]
        exact .bot _
      · rw [e]
        cases t.ss c b ρ M with
        | exn k fs ρ M =>
          dsimp only
          split
          · cases clause P k hs with
            | none => exact .refl _
            | some p =>
              obtain ⟨n, b⟩ := p
              dsimp only
              split
              · exact LeS.map (h.ss ..)
              · exact .refl _
          · exact .refl _
        | _ => exact .refl _
    | _ => exact .refl _
  ss := fun c x ρ M => by
    show LeS (stepSs s c x ρ M) (stepSs t c x ρ M)
    cases x with
    | nil => exact .refl _
    | cons e es => exact LeS.sbind (h.s ..) fun _ _ => h.ss ..
  f := fun d f ds M => by
    show LeR (stepF P s d f ds M) (stepF P t d f ds M)
    unfold stepF
    split
    · split
      · exact LeR.endF (h.ss ..)
      · exact .refl _
    · exact .refl _
end
theorem le_bot (t : Sys) : LeY bot t := ⟨fun _ _ _ _ => .inl rfl, fun _ _ _ _ => .inl rfl, fun _ _ _ _ => .inl rfl, fun _ _ _ _ => .inl rfl, fun _ _ _ _ => .inl rfl⟩
theorem le_refl (t : Sys) : LeY t t := ⟨fun _ _ _ _ => .inr rfl, fun _ _ _ _ => .inr rfl, fun _ _ _ _ => .inr rfl, fun _ _ _ _ => .inr rfl, fun _ _ _ _ => .inr rfl⟩
theorem le_sys (P : Pg) : ∀ {m n : Nat}, m ≤ n → LeY (sys P m) (sys P n)
  | 0, n, _ => le_bot _
  | m + 1, 0, h => absurd h (Nat.not_succ_le_zero m)
  | m + 1, n + 1, h => le_step (le_sys P (Nat.le_of_succ_le_succ h))
/-! ### the limit -/
open Classical in
noncomputable def upR {α : Type} (F : Nat → Res α) : Res α := if h : ∃ n, F n ≠ .stuck then F (Classical.choose h) else .stuck
open Classical in
noncomputable def upS (F : Nat → SRes) : SRes := if h : ∃ n, F n ≠ .stuck then F (Classical.choose h) else .stuck
noncomputable def run (P : Pg) : Sys where
  e := fun c x ρ M => upR fun n => (sys P n).e c x ρ M
  es := fun c x ρ M => upR fun n => (sys P n).es c x ρ M
  s := fun c x ρ M => upS fun n => (sys P n).s c x ρ M
  ss := fun c x ρ M => upS fun n => (sys P n).ss c x ρ M
  f := fun d f ds M => upR fun n => (sys P n).f d f ds M
/-- from some turn on it stays -/
def EvR {α : Type} (F : Nat → Res α) (r : Res α) : Prop := ∃ n, ∀ m, n ≤ m → F m = r
def EvS (F : Nat → SRes) (r : SRes) : Prop := ∃ n, ∀ m, n ≤ m → F m = r
theorem up_ev {α : Type} {F : Nat → Res α} (h : ∀ m n, m ≤ n → LeR (F m) (F n)) : EvR F (upR F) := by
  unfold upR
  split
  · rename_i q
    refine ⟨Classical.choose q, fun m hm => ?_⟩
    rcases h _ m hm with e | e
    · exact absurd e (Classical.choose_spec q)
    · exact e.symm
  · rename_i q
    exact ⟨0, fun m _ => Classical.byContradiction fun z => q ⟨m, z⟩⟩
theorem up_evS {F : Nat → SRes} (h : ∀ m n, m ≤ n → LeS (F m) (F n)) : EvS F (upS F) := by
  unfold upS
  split
  · rename_i q
    refine ⟨Classical.choose q, fun m hm => ?_⟩
    rcases h _ m hm with e | e
    · exact absurd e (Classical.choose_spec q)
    · exact e.symm
  · rename_i q
    exact ⟨0, fun m _ => Classical.byContradiction fun z => q ⟨m, z⟩⟩
section
variable (P : Pg)
theorem ev_e {c x ρ M} : EvR (fun n => (sys P n).e c x ρ M) ((run P).e c x ρ M) := up_ev fun m n h => (le_sys P h).e ..
theorem ev_es {c x ρ M} : EvR (fun n => (sys P n).es c x ρ M) ((run P).es c x ρ M) := up_ev fun m n h => (le_sys P h).es ..
theorem ev_s {c x ρ M} : EvS (fun n => (sys P n).s c x ρ M) ((run P).s c x ρ M) := up_evS fun m n h => (le_sys P h).s ..
theorem ev_ss {c x ρ M} : EvS (fun n => (sys P n).ss c x ρ M) ((run P).ss c x ρ M) := up_evS fun m n h => (le_sys P h).ss ..
theorem ev_f {d f ds M} : EvR (fun n => (sys P n).f d f ds M) ((run P).f d f ds M) := up_ev fun m n h => (le_sys P h).f ..
end
theorem EvR.const {α : Type} {r : Res α} : EvR (fun _ => r) r := ⟨0, fun _ _ => rfl⟩
theorem EvS.const {r : SRes} : EvS (fun _ => r) r := ⟨0, fun _ _ => rfl⟩
theorem EvR.bind {α γ : Type} {F : Nat → Res α} {r : Res α} {k : Nat → α → MH → Res γ} {k' : α → MH → Res γ} (h : EvR F r) (hk : ∀ x M, EvR (fun n => k n x M) (k' x M)) : EvR (fun n => (F n).bind (k n)) (r.bind k') := by
  obtain ⟨n1, h1⟩ := h
  cases r with
  | ok x M =>
    obtain ⟨n2, h2⟩ := hk x M
    exact ⟨max n1 n2, fun m hm => by dsimp only; rw [h1 m (by omega)]; exact h2 m (by omega)⟩
  | exn c fs M => exact ⟨n1, fun m hm => by dsimp only; rw [h1 m hm]; rfl⟩
  | stuck => exact ⟨n1, fun m hm => by dsimp only; rw [h1 m hm]; rfl⟩
theorem EvR.sbind {α : Type} {F : Nat → Res α} {r : Res α} {ρ : Env} {k : Nat → α → MH → SRes} {k' : α → MH → SRes} (h : EvR F r) (hk : ∀ x M, EvS (fun n => k n x M) (k' x M)) : EvS (fun n => (F n).sbind ρ (k n)) (r.sbind ρ k') := by
  obtain ⟨n1, h1⟩ := h
  cases r with
  | ok x M =>
    obtain ⟨n2, h2⟩ := hk x M
    exact ⟨max n1 n2, fun m hm => by dsimp only; rw [h1 m (by omega)]; exact h2 m (by omega)⟩
  | exn c fs M => exact ⟨n1, fun m hm => by dsimp only; rw [h1 m hm]; rfl⟩
  | stuck => exact ⟨n1, fun m hm => by dsimp only; rw [h1 m hm]; rfl⟩
theorem EvS.sbind {F : Nat → SRes} {r : SRes} {k : Nat → Env → MH → SRes} {k' : Env → MH → SRes} (h : EvS F r) (hk : ∀ x M, EvS (fun n => k n x M) (k' x M)) : EvS (fun n => (F n).sbind (k n)) (r.sbind k') := by
  obtain ⟨n1, h1⟩ := h
  cases r with
  | nx x M =>
    obtain ⟨n2, h2⟩ := hk x M
    exact ⟨max n1 n2, fun m hm => by dsimp only; rw [h1 m (by omega)]; exact h2 m (by omega)⟩
  | _ => exact ⟨n1, fun m hm => by dsimp only; rw [h1 m hm]; rfl⟩
theorem EvR.tst {F : Nat → Res D} {r : Res D} {k : Nat → Bool → MH → Res D} {k' : Bool → MH → Res D} (h : EvR F r) (hk : ∀ x M, EvR (fun n => k n x M) (k' x M)) : EvR (fun n => LX.tst (F n) (k n)) (LX.tst r k') :=
  EvR.bind (k := fun n d M => (ofO (asBl d) M).bind (k n)) h fun x M => EvR.bind .const hk
theorem EvR.app {α γ : Type} {F : Nat → Res α} {r : Res α} (g : Res α → Res γ) (h : EvR F r) : EvR (fun n => g (F n)) (g r) := by
  obtain ⟨n1, h1⟩ := h
  exact ⟨n1, fun m hm => by dsimp only; rw [h1 m hm]⟩
theorem EvS.app {γ : Type} {F : Nat → SRes} {r : SRes} (g : SRes → Res γ) (h : EvS F r) : EvR (fun n => g (F n)) (g r) := by
  obtain ⟨n1, h1⟩ := h
  exact ⟨n1, fun m hm => by dsimp only; rw [h1 m hm]⟩
theorem EvS.appS {F : Nat → SRes} {r : SRes} (g : SRes → SRes) (h : EvS F r) : EvS (fun n => g (F n)) (g r) := by
  obtain ⟨n1, h1⟩ := h
  exact ⟨n1, fun m hm => by dsimp only; rw [h1 m hm]⟩
/-- a result, then what hangs on it -/
theorem EvS.on {F : Nat → SRes} {r : SRes} {g : Nat → SRes → SRes} {g' : SRes → SRes} (h : EvS F r) (hg : EvS (fun n => g n r) (g' r)) : EvS (fun n => g n (F n)) (g' r) := by
  obtain ⟨n1, h1⟩ := h
  obtain ⟨n2, h2⟩ := hg
  exact ⟨max n1 n2, fun m hm => by dsimp only; rw [h1 m (by omega)]; exact h2 m (by omega)⟩
section
variable {P : Pg} {c : Cf}
theorem ev_it {it : E} {ρ : Env} {M : MH} : EvR (fun n => itE (sys P n) c it ρ M) (itE (run P) c it ρ M) := by
  unfold itE
  split
  · exact EvR.bind (ev_e P) fun x M => .const
  · exact EvR.bind (ev_e P) fun x M => EvR.bind (ev_e P) fun y M => .const
  · exact EvR.bind (ev_e P) fun x M => EvR.bind (ev_e P) fun y M => EvR.bind (ev_e P) fun z M => .const
  · exact EvR.bind (ev_e P) fun x M => EvR.bind (ev_e P) fun y M => .const
  · exact EvR.bind (ev_e P) fun x M => .const
theorem ev_tests {o : Option E} {ρ : Env} {M : MH} : EvR (fun n => tests (sys P n) c o ρ M) (tests (run P) c o ρ M) := by
  cases o with
  | none => exact .const
  | some e => exact EvR.bind (ev_e P) fun x M => .const
theorem ev_opt {o : Option E} {ρ : Env} {M : MH} : EvR (fun n => optE (sys P n) c o ρ M) (optE (run P) c o ρ M) := by
  cases o with
  | none => exact .const
  | some e => exact EvR.bind (ev_e P) fun x M => .const
theorem ev_lc {g : G} {all : List D} {k : Option Nat} {o : Option E} {e : E} {ρ : Env} : ∀ {l acc : List D} {M : MH}, EvR (fun n => lcL (sys P n) c g all k o e ρ l acc M) (lcL (run P) c g all k o e ρ l acc M)
  | [], acc, M => .const
  | x :: xs, acc, M => by
    unfold lcL
    split
    · refine EvR.bind .const fun ρ' M => EvR.bind ev_tests fun b M => ?_
      cases b with
      | true =>
        refine EvR.bind (ev_e P) fun d M => ?_
        by_cases h : acc.length < lim
        · simp only [h, if_true]
          exact ev_lc
        · simp only [h, if_false]
          exact .const
      | false => exact ev_lc
    · exact .const
theorem ev_for {g : G} {all : List D} {k : Option Nat} {b : List S} : ∀ {l : List D} {ρ : Env} {M : MH}, EvS (fun n => forL (sys P n) c g all k b l ρ M) (forL (run P) c g all k b l ρ M)
  | [], ρ, M => .const
  | x :: xs, ρ, M => by
    unfold forL
    split
    · cases bindG g x ρ with
      | none => exact .const
      | some ρ' =>
        refine EvS.on (g := fun n r => match r with
          | .nx ρ M => forL (sys P n) c g all k b xs ρ M
          | .ct ρ M => forL (sys P n) c g all k b xs ρ M
          | .bk ρ M => .nx ρ M
          | r => r) (g' := fun r => match r with
          | .nx ρ M => forL (run P) c g all k b xs ρ M
          | .ct ρ M => forL (run P) c g all k b xs ρ M
          | .bk ρ M => .nx ρ M
          | r => r) (ev_ss P (c := c) (x := b) (ρ := ρ') (M := M)) ?_
        cases (run P).ss c b ρ' M with
        | nx ρ M => exact ev_for
        | ct ρ M => exact ev_for
        | _ => exact .const
    · exact .const
theorem ev_stepE {x : E} {ρ : Env} {M : MH} : EvR (fun n => stepE P (sys P n) c x ρ M) (stepE P (run P) c x ρ M) := by
  cases x with
  | tup es => exact EvR.bind (ev_es P) fun _ _ => .const
  | lst m es => exact EvR.bind (ev_es P) fun _ _ => .const
  | bin m o a b => exact EvR.bind (ev_e P) fun _ _ => EvR.bind (ev_e P) fun _ _ => .const
  | neg a => exact EvR.bind (ev_e P) fun _ _ => .const
  | cmp o a b => exact EvR.bind (ev_e P) fun _ _ => EvR.bind (ev_e P) fun _ _ => .const
  | chain o p a b e =>
    exact EvR.bind (ev_e P) fun _ _ => EvR.bind (ev_e P) fun _ _ => EvR.bind .const fun k _ => (by
      cases k with
      | true => exact EvR.bind (ev_e P) fun _ _ => .const
      | false => exact .const)
  | and a b =>
    exact EvR.tst (ev_e P) fun k _ => (by
      cases k with
      | true => exact EvR.tst (ev_e P) fun _ _ => .const
      | false => exact .const)
  | or a b =>
    exact EvR.tst (ev_e P) fun k _ => (by
      cases k with
      | true => exact .const
      | false => exact EvR.tst (ev_e P) fun _ _ => .const)
  | not a => exact EvR.tst (ev_e P) fun _ _ => .const
  | ite b a e =>
    exact EvR.tst (ev_e P) fun k _ => (by
      cases k with
      | true => exact ev_e P
      | false => exact ev_e P)
  | truth a => exact EvR.bind (ev_e P) fun _ _ => .const
  | call f es => exact EvR.bind (ev_es P) fun _ _ => ev_f P
  | fn m b es => exact EvR.bind (ev_es P) fun _ _ => .const
  | meth u o es =>
    refine EvR.bind (ev_e P) fun x M => ?_
    by_cases h : recvOk M u x = true
    · simp only [h, if_true]
      exact EvR.bind (ev_es P) fun _ _ => .const
    · simp only [h, if_false]
      exact .const
  | ix a i => exact EvR.bind (ev_e P) fun _ _ => EvR.bind (ev_e P) fun _ _ => .const
  | cut m a lo hi => exact EvR.bind (ev_e P) fun _ _ => EvR.bind ev_opt fun _ _ => EvR.bind ev_opt fun _ _ => .const
  | rev m a => exact EvR.bind (ev_e P) fun _ _ => .const
  | stp a lo => exact EvR.bind (ev_e P) fun _ _ => EvR.bind ev_opt fun _ _ => .const
  | lrng m a => exact EvR.bind (ev_e P) fun _ _ => .const
  | lower a => exact EvR.bind (ev_e P) fun _ _ => .const
  | lset a => exact EvR.bind (ev_e P) fun _ _ => .const
  | srts a => exact EvR.bind (ev_e P) fun _ _ => .const
  | callk f n pm es =>
    refine EvR.bind (ev_es P) fun ds M => ?_
    by_cases h : ds.length = n
    · simp only [h, if_true]
      exact ev_f P
    · simp only [h, if_false]
      exact .const
  | hcall q =>
    obtain ⟨d, cx⟩ := c
    cases d with
    | zero => exact .const
    | succ d =>
      cases cx with
      | none => exact .const
      | some y =>
        cases hq : P.qns[q]? with
        | none =>
          have z : ∀ s : Sys, stepE P s ⟨d + 1, some y⟩ (.hcall q) ρ M = .stuck := fun s => by simp only [stepE, hq]
          simp only [z]
          exact .const
        | some w =>
          have z : ∀ s : Sys, stepE P s ⟨d + 1, some y⟩ (.hcall q) ρ M = hres (s.ss ⟨d, some y⟩ w.2 (List.replicate w.1 none) M) := fun s => by simp only [stepE, hq]
          simp only [z]
          exact EvS.app LX.hres (ev_ss P)
  | lc m own g it o e => exact EvR.bind ev_it fun _ _ => EvR.bind (EvR.app LX.noExn ev_lc) fun _ _ => .const
  | isi ks a => exact EvR.bind (ev_e P) fun _ _ => .const
  | call0 f => exact EvR.app LX.noExn (ev_f P)
  | tget kvs a b =>
    refine EvR.bind (ev_e P) fun x M => ?_
    by_cases h : isStrD x = true
    · simp only [h, if_true]
      exact EvR.bind (ev_e P) fun _ _ => .const
    · simp only [h, if_false]
      exact .const
  | sm m k a b =>
    refine EvR.bind (ev_e P) fun x M => ?_
    by_cases h : isStrD x = true
    · simp only [h, if_true]
      exact EvR.bind (ev_e P) fun _ _ => .const
    · simp only [h, if_false]
      exact .const
  | _ => exact .const
theorem ev_stepEs {x : List E} {ρ : Env} {M : MH} : EvR (fun n => stepEs (sys P n) c x ρ M) (stepEs (run P) c x ρ M) := by
  cases x with
  | nil => exact .const
  | cons e es => exact EvR.bind (ev_e P) fun _ _ => EvR.bind (ev_es P) fun _ _ => .const
theorem ev_stepSs {x : List S} {ρ : Env} {M : MH} : EvS (fun n => stepSs (sys P n) c x ρ M) (stepSs (run P) c x ρ M) := by
  cases x with
  | nil => exact .const
  | cons e es => exact EvS.sbind (ev_s P) fun _ _ => ev_ss P
theorem ev_stepF {d f : Nat} {ds : List D} {M : MH} : EvR (fun n => stepF P (sys P n) d f ds M) (stepF P (run P) d f ds M) := by
  unfold stepF
  split
  · split
    · exact EvS.app (LX.endF _ _) (ev_ss P)
    · exact .const
  · exact .const
theorem ev_stepS {x : S} {ρ : Env} {M : MH} : EvS (fun n => stepS P (sys P n) c x ρ M) (stepS P (run P) c x ρ M) := by
  cases x with
  | expr e => exact EvR.sbind (ev_e P) fun _ _ => .const
  | ret e => exact EvR.sbind (ev_e P) fun _ _ => .const
  | set i e => exact EvR.sbind (ev_e P) fun _ _ => .const
  | unp is e => exact EvR.sbind (ev_e P) fun _ _ => .const
  | unl is e => exact EvR.sbind (ev_e P) fun _ _ => .const
  | par i j a b => exact EvR.sbind (ev_e P) fun _ _ => EvR.sbind (ev_e P) fun _ _ => .const
  | par3 i j k a b e => exact EvR.sbind (ev_e P) fun _ _ => EvR.sbind (ev_e P) fun _ _ => EvR.sbind (ev_e P) fun _ _ => .const
  | put o i e => exact EvR.sbind (ev_e P) fun _ _ => EvR.sbind (ev_e P) fun _ _ => EvR.sbind (ev_e P) fun _ _ => .const
  | aug i o e =>
    have z : ∀ s : Sys, stepS P s c (.aug i o e) ρ M = (match ρ[i]? with
      | some (some x) => (s.e c e ρ M).sbind ρ fun y M => (augD M o x y).sbind ρ fun d M => .nx (ρ.set i (some d)) M
      | _ => .stuck) := fun _ => rfl
    simp only [z]
    split
    · exact EvR.sbind (ev_e P) fun _ _ => .const
    · exact .const
  | ite b a e =>
    refine EvR.sbind (ev_e P) fun d _ => ?_
    cases asBl d with
    | none => exact .const
    | some b =>
      cases b with
      | true => exact ev_ss P
      | false => exact ev_ss P
  | wh o b =>
    refine EvR.sbind (ev_e P) fun d M => ?_
    cases asBl d with
    | none => exact .const
    | some q =>
      cases q with
      | false => exact .const
      | true =>
        refine EvS.on (g := fun n r => match r with
          | .nx ρ M => (sys P n).s c (.wh o b) ρ M
          | .ct ρ M => (sys P n).s c (.wh o b) ρ M
          | .bk ρ M => .nx ρ M
          | r => r) (g' := fun r => match r with
          | .nx ρ M => (run P).s c (.wh o b) ρ M
          | .ct ρ M => (run P).s c (.wh o b) ρ M
          | .bk ρ M => .nx ρ M
          | r => r) (ev_ss P (c := c) (x := b) (ρ := ρ) (M := M)) ?_
        cases (run P).ss c b ρ M with
        | nx ρ M => exact ev_s P
        | ct ρ M => exact ev_s P
        | _ => exact .const
  | «for» g it b => exact EvR.sbind ev_it fun _ _ => ev_for
  | raise k es => exact EvR.sbind (ev_es P) fun _ _ => .const
  | «try» b hs =>
    refine EvS.on (g := fun n r => match r with
      | .exn k fs ρ M => if k < P.live then match clause P k hs with
        | some (q, b) => if slotIn q ρ then ((sys P n).ss { c with x := some (k, fs) } b (gone q ρ) M).map (gone q) else .stuck
        | none => .exn k fs ρ M
        else .stuck
      | r => r) (g' := fun r => match r with
      | .exn k fs ρ M => if k < P.live then match clause P k hs with
        | some (q, b) => if slotIn q ρ then ((run P).ss { c with x := some (k, fs) } b (gone q ρ) M).map (gone q) else .stuck
        | none => .exn k fs ρ M
        else .stuck
      | r => r) (ev_ss P (c := c) (x := b) (ρ := ρ) (M := M)) ?_
    cases (run P).ss c b ρ M with
    | exn k fs ρ M =>
      by_cases h : k < P.live
      · simp only [h, if_true]
        cases clause P k hs with
        | none => exact .const
        | some p =>
          obtain ⟨q, b⟩ := p
          by_cases h2 : slotIn q ρ = true
          · simp only [h2, if_true]
            exact EvS.appS (SRes.map (gone q)) (ev_ss P)
          · simp only [h2, if_false]
            exact .const
      · simp only [h, if_false]
        exact .const
    | _ => exact .const
  | _ => exact .const
theorem EvR.uniq {α : Type} {F G : Nat → Res α} {r r' : Res α} (h : EvR F r) (h' : EvR G r') (q : ∀ n, F (n + 1) = G n) : r = r' := by
  obtain ⟨n1, h1⟩ := h
  obtain ⟨n2, h2⟩ := h'
  rw [← h1 (max n1 n2 + 1) (by omega), q, h2 _ (by omega)]
theorem EvS.uniq {F G : Nat → SRes} {r r' : SRes} (h : EvS F r) (h' : EvS G r') (q : ∀ n, F (n + 1) = G n) : r = r' := by
  obtain ⟨n1, h1⟩ := h
  obtain ⟨n2, h2⟩ := h'
  rw [← h1 (max n1 n2 + 1) (by omega), q, h2 _ (by omega)]
theorem run_e {x : E} {ρ : Env} {M : MH} : (run P).e c x ρ M = stepE P (run P) c x ρ M := EvR.uniq (ev_e P) ev_stepE fun _ => rfl
theorem run_es {x : List E} {ρ : Env} {M : MH} : (run P).es c x ρ M = stepEs (run P) c x ρ M := EvR.uniq (ev_es P) ev_stepEs fun _ => rfl
theorem run_s {x : S} {ρ : Env} {M : MH} : (run P).s c x ρ M = stepS P (run P) c x ρ M := EvS.uniq (ev_s P) ev_stepS fun _ => rfl
theorem run_ss {x : List S} {ρ : Env} {M : MH} : (run P).ss c x ρ M = stepSs (run P) c x ρ M := EvS.uniq (ev_ss P) ev_stepSs fun _ => rfl
theorem run_f {d f : Nat} {ds : List D} {M : MH} : (run P).f d f ds M = stepF P (run P) d f ds M := EvR.uniq (ev_f P) ev_stepF fun _ => rfl
/-- what a bounded run tells -/
theorem run_of {d f n : Nat} {ds : List D} {M : MH} {r : Res D} (h : (sys P n).f d f ds M = r) (hr : r ≠ .stuck) : (run P).f d f ds M = r := by
  obtain ⟨m, hm⟩ := ev_f P (d := d) (f := f) (ds := ds) (M := M)
  have h1 := hm (max m n) (by omega)
  dsimp only at h1
  rcases (le_sys P (Nat.le_max_right m n)).f d f ds M with e | e
  · rw [h] at e
    exact absurd e hr
  · rw [← h1, ← e, h]
end
/-- a def keeps the unbounded promise -/
theorem fn_run {P : Program} {w : World} {K : PySem.W.Frag} {mg : Str → Option Value} {base : Heap} {pg : Pg} {T : Tb} {xa fa : Nat → Addr} (tab : Tab w K mg pg T xa fa) (I : ∀ f t, pg.fns[f]? = some t → ∃ fd ps, FnJ K T fa f t fd ps) {f d : Nat} {t : Fn} (hf : pg.fns[f]? = some t) {fd : FuncData} {ps : List Str} (J : FnJ K T fa f t fd ps) :
    FnOk P w K mg base (L2.CX P w) (d + 2) (fa f) fd ps (spF K xa t.np ((run pg).f d f)) := by
  have all := fun n => (fn_one (P := P) (w := w) (base := base) (n := n) (d := d) tab (fun m _ => fn_ok tab I m) hf J).1
  refine ⟨fun vs H Q E q => ?_, fun A outer s H args us vs Q E hr e0 hb hv ⟨hl, β, M, ds, hp, r, q⟩ => ?_⟩
  · obtain ⟨hl, _⟩ := q
    obtain ⟨_, _, _, _, _, _, _, h1, _⟩ := J
    exact hl.trans h1.symm
  · obtain ⟨n, hn⟩ := ev_f pg (d := d) (f := f) (ds := ds) (M := M)
    refine (all n).run A outer s H args us vs Q E hr e0 hb hv ⟨hl, β, M, ds, hp, r, ?_⟩
    have e := hn n (Nat.le_refl n)
    dsimp only at e
    rw [e]
    exact q
end LX

set_option Elab.async false
set_option linter.all false
set_option maxRecDepth 100000
set_option maxHeartbeats 2000000
/-! LxEnd: the tables out of single facts; the law's promise. -/
namespace LX
open PySem L2 PyProof.Rows
/-- a class that can stand in an except clause -/
def ClsF (K : PySem.W.Frag) (c : Addr) : Prop := PySem.W.isClsIn K c = true ∧ PySem.W.typeIn K (.ref c) = some (.type "type") ∧ PySem.W.subIn K (.ref c) (.type "BaseException") = some true
theorem ClsF.kit {K : PySem.W.Frag} {t : Value} {c : Addr} {b : Bool} (h : ClsF K c) (s : PySem.W.subIn K t (.ref c) = some b) : PySem.W.kitCls K t (.ref c) = some b := by
  have e2 : ((PySem.W.clsIn K c).isSome && PySem.W.typeIn K (.ref c) == some (.type "type")) = true := by
    have h2' : (PySem.W.clsIn K c).isSome = true := h.1
    rw [h2', h.2.1] <;> rfl
  show (if ((PySem.W.clsIn K c).isSome && PySem.W.typeIn K (.ref c) == some (.type "type")) = true then PySem.W.subIn K t (.ref c) else none) = some b
  rw [if_pos e2]
  exact s
theorem ClsF.exm {K : PySem.W.Frag} {t : Value} {c : Addr} {b : Bool} (h : ClsF K c) (s : PySem.W.subIn K t (.ref c) = some b) : PySem.W.exmOne K t (.ref c) = some b := by
  have e1 : (PySem.W.subIn K (.ref c) (.type "BaseException") == some true) = true := by rw [h.2.2] <;> rfl
  show (if (PySem.W.subIn K (.ref c) (.type "BaseException") == some true) = true then PySem.W.kitCls K t (.ref c) else none) = some b
  rw [if_pos e1]
  exact h.kit s
theorem ClsF.one {K : PySem.W.Frag} {d c : Addr} {b : Bool} (h : ClsF K c) (s : PySem.W.subIn K (.ref d) (.ref c) = some b) (sd : PySem.W.subIn K (.ref d) (.ref d) = some true) : PySem.W.kitOne K (.ref d) (.ref c) = some b := by
  unfold PySem.W.kitOne
  by_cases e : (Value.ref d == Value.ref c) = true
  · rw [if_pos e]
    have e := beq_iff_eq.mp e
    rw [← e] at s
    rw [sd] at s
    exact s
  · rw [if_neg e]
    exact h.kit s
structure LiveF (K : PySem.W.Frag) (pg : Pg) (T : Tb) (cs : List Addr) (k : Nat) (x : Xc) : Prop where
  sub : AllI (fun j _ => PySem.W.subIn K (.ref (cs.getD k 0)) (.ref (cs.getD j 0)) = some (decide (j ∈ x.up))) 0 pg.xcs
  self : k ∈ x.up
  isc : XisC K (cs.getD k 0)
  xf : XfC K (cs.getD k 0)
  no : AllI (fun _ f => PySem.W.findIn K (.ref (cs.getD k 0)) f = some none) 0 T.flds
theorem con_int {K : PySem.W.Frag} {i : Int} {t : Tok} : ConR K (.int i t) (.int i) := ⟨.int i, ⟨t, rfl⟩, fun _ _ _ => rfl⟩
theorem con_str {K : PySem.W.Frag} {z : Str} {s : List Nat} {t : Tok} (h : z = ⟨s.toArray⟩) (hl : s.length ≤ lim) : ConR K (.str z t) (.str s) := ⟨.str z, ⟨t, rfl⟩, fun _ _ _ => by subst h; exact Rep.mkStr hl⟩
def ConRs (K : PySem.W.Frag) (us : List Value) (ds : List D) : Prop := ∃ vs, Vals vs us ∧ ∀ H β N, Reps K H β N ds vs
theorem con_nil {K : PySem.W.Frag} : ConRs K [] [] := ⟨[], .nil, fun _ _ _ => by unfold Reps; rfl⟩
theorem con_cons {K : PySem.W.Frag} {u : Value} {d : D} {us : List Value} {ds : List D} (h : ConR K u d) (t : ConRs K us ds) : ConRs K (u :: us) (d :: ds) := by
  obtain ⟨v, r, q⟩ := h
  obtain ⟨vs, rs, qs⟩ := t
  exact ⟨v :: vs, .cons r rs, fun H β N => by unfold Reps; exact ⟨v, vs, rfl, q H β N, qs H β N⟩⟩
theorem con_tup {K : PySem.W.Frag} {a : Addr} {od : Option Addr} {its : Array Value} {n : Nat} {sl : Array (Option Value)} {xs : List D} (h : K.lookup a = some ⟨.type "tuple", od, .seq its n, sl⟩) (hz : its.size ≤ sizeLine) (hs : ConRs K its.toList xs) : ConR K (.ref a) (.tup xs) := by
  obtain ⟨vs, rs, qs⟩ := hs
  exact ⟨.ref a, rfl, fun H β N => by unfold Rep; exact ⟨a, vs, rfl, .inr ⟨_, its, n, h, rfl, rfl, hz, rs⟩, qs H β N⟩⟩
theorem lookup_mem {α : Type} {l : List (Str × α)} {x : Str} {d : α} (h : l.lookup x = some d) : (x, d) ∈ l := by
  induction l with
  | nil => cases h
  | cons p l ih =>
    obtain ⟨y, e⟩ := p
    have h' : (match x == y with
      | true => some e
      | false => l.lookup x) = some d := h
    by_cases q : x = y
    · subst q
      rw [show (x == x) = true by simp] at h'
      cases h'
      exact List.mem_cons_self
    · rw [show (x == y) = false by simpa using q] at h'
      exact List.mem_cons_of_mem _ (ih h')
theorem tab_mk {w : World} {K : PySem.W.Frag} {mg : Str → Option Value} {h : Heap} {pg : Pg} {T : Tb} {fs cs : List Addr} (X : K.In h) (G : h.Ns mainGlobals mg)
    (hf : AllI (fun i x => PySem.W.nsIn K mainGlobals x = some (some (.ref (fs.getD i 0))) ∧ PySem.W.keepIn K (.ref (fs.getD i 0)) = true) 0 T.fns) (lf : T.fns.length ≤ pg.fns.length)
    (hx : AllI (fun k y => PySem.W.nsIn K mainGlobals y = some (some (.ref (cs.getD k 0)))) 0 T.xcs) (lx : T.xcs.length ≤ pg.xcs.length)
    (hb : AllI (fun _ x => PySem.W.nsIn K mainGlobals x = some none) 0 T.bls)
    (hc : AllI (fun _ p => ∃ u, PySem.W.nsIn K mainGlobals p.1 = some (some u) ∧ ConR K u p.2) 0 T.cons)
    (hk : AllI (fun k _ => ClsF K (cs.getD k 0)) 0 pg.xcs) (hl : AllI (LiveF K pg T cs) 0 (pg.xcs.take pg.live)) (ll : pg.live ≤ pg.xcs.length)
    (hi : AllI (fun _ k => ∃ x, pg.xcs[k]? = some x ∧ XIni K (cs.getD k 0) x.flds ∧ x.flds.Nodup) 0 T.ini)
    (hq : AllI (fun (q : Nat) (x : Str) => ∃ (f : Addr) (t : Nat × List S) (fd : FuncData) (qual : Str) (st : Stmt) (N : List Str) (p0 : Str) (k : Nat), pg.qns[q]? = some t ∧ PySem.W.nsIn K mainGlobals x = some (some (.ref f)) ∧ PySem.W.keepIn K (.ref f) = true ∧ Fun K x qual st f fd ∧ FnScope N [p0] (defScope st) ∧ Binds K fd [p0] [] ∧ N.length = t.1 ∧ 0 < t.1 ∧ chkSs T k ⟨N, defScope st, defScope st, some (some 0), false⟩ (defBody st) t.2 = true) 0 T.qns)
    (ht : AllI (fun _ p => ∃ a, PySem.W.nsIn K mainGlobals p.1 = some (some (.ref a)) ∧ TabR w K a p.2) 0 T.tabs) : Tab w K mg pg T (fun k => cs.getD k 0) (fun f => fs.getD f 0) := by
  have z0 : ∀ n : Nat, 0 + n = n := fun n => Nat.zero_add n
  have live : ∀ k x, pg.xcs[k]? = some x → k < pg.live → LiveF K pg T cs k x := fun k x e hk2 => by
    have := AllI.get (i := k) (a := x) hl (by rw [List.getElem?_take, if_pos hk2]; exact e)
    rw [z0] at this
    exact this
  have cls : ∀ j, j < pg.xcs.length → ClsF K (cs.getD j 0) := fun j hj => by
    have := AllI.get (i := j) hk (List.getElem?_eq_getElem hj)
    rw [z0] at this
    exact this
  have sub : ∀ k x j, pg.xcs[k]? = some x → k < pg.live → j < pg.xcs.length → PySem.W.subIn K (.ref (cs.getD k 0)) (.ref (cs.getD j 0)) = some (decide (j ∈ x.up)) := fun k x j e h1 h2 => by
    have := AllI.get (i := j) (live k x e h1).sub (List.getElem?_eq_getElem h2)
    rw [z0] at this
    exact this
  have lt : ∀ {k x}, pg.xcs[k]? = some x → k < pg.xcs.length := fun e => (List.getElem?_eq_some_iff.mp e).1
  refine ⟨fun f x e => ?_, fun k y e => ?_, fun x m => ?_, fun x d e => ?_, fun x kvs e => ?_, fun f m k hk2 => ?_, ⟨ll, fun k x j e h1 h2 => (cls j h2).exm (sub k x j e h1 h2), fun k x j e h1 h2 => ?_, fun k h1 => ?_, fun k h1 => ?_⟩, fun k m x e => ?_, fun q x e => ?_⟩
  · have := AllI.get (i := f) hf e
    rw [z0] at this
    exact ⟨PySem.W.mg_of X G this.1, this.2, Nat.lt_of_lt_of_le (List.getElem?_eq_some_iff.mp e).1 lf⟩
  · have := AllI.get (i := k) hx e
    rw [z0] at this
    exact ⟨PySem.W.mg_of X G this, Nat.lt_of_lt_of_le (List.getElem?_eq_some_iff.mp e).1 lx⟩
  · exact PySem.W.mg_none_of X G (AllI.mem (P := fun x => PySem.W.nsIn K mainGlobals x = some none) hb m)
  · obtain ⟨u, h1, v, h2, h3⟩ := AllI.mem hc (lookup_mem e)
    exact ⟨v, u, PySem.W.mg_of X G h1, h2, h3⟩
  · obtain ⟨a, h1, h2⟩ := AllI.mem ht (lookup_mem e)
    exact ⟨a, PySem.W.mg_of X G h1, h2⟩
  · have h1 := Nat.lt_of_lt_of_le hk2 ll
    exact AllI.mem (P := fun f => PySem.W.findIn K (.ref (cs.getD k 0)) f = some none) (live k _ (List.getElem?_eq_getElem h1) hk2).no m
  · refine (cls j h2).one (sub k x j e h1 h2) ?_
    have := sub k x k e h1 (lt e)
    rw [decide_eq_true (live k x e h1).self] at this
    exact this
  · exact (live k _ (List.getElem?_eq_getElem (Nat.lt_of_lt_of_le h1 ll)) h1).isc
  · exact (live k _ (List.getElem?_eq_getElem (Nat.lt_of_lt_of_le h1 ll)) h1).xf
  · obtain ⟨x', e', q⟩ := AllI.mem hi m
    rw [e] at e'
    cases e'
    exact q
  · obtain ⟨f, t, fd, qual, st, N, p0, k, b1, b2, more⟩ := AllI.get (i := q) hq e
    rw [z0] at b1
    exact ⟨f, t, fd, qual, st, N, p0, k, b1, PySem.W.mg_of X G b2, more⟩
/-- the law's promise, of a list of ints handed in -/
def spLaw (n : Nat) (K : PySem.W.Frag) : Sp := fun vs H Q _ => ∃ (a : Addr) (ns : List Int), vs = [.ref a] ∧ ns.length ≤ n ∧ SqF K H a (ns.map V.int) ∧ ∀ H', Q (.bl true) H'
theorem ints_rep {K : PySem.W.Frag} {H : Hp} {β : Bt} {N : Nat} : ∀ ns : List Int, Reps K H β N (ns.map D.int) (ns.map V.int)
  | [] => Reps.nil
  | i :: ns => .cons rfl (ints_rep ns)
theorem sp_law {n d f : Nat} {K : PySem.W.Frag} {pg : Pg} {xa : Nat → Addr} (h : ∀ ns : List Int, ns.length ≤ n → ∃ M, (run pg).f d f [.fl (ns.map .int)] [] = .ok (.bl true) M) (vs : List V) (H : Hp) (Q : VK) (E : XK) (q : spLaw n K vs H Q E) : spF K xa 1 ((run pg).f d f) vs H Q E := by
  obtain ⟨a, ns, rfl, hl, hs, q⟩ := q
  refine ⟨rfl, ⟨fun _ => 0, []⟩, [], [.fl (ns.map .int)], ⟨fun n o e => by simp at e, fun m n h => absurd h (Nat.not_lt_zero _), fun a h => by cases h⟩, ?_, ?_⟩
  · refine .one ?_
    unfold Rep
    exact ⟨a, _, rfl, hs, ints_rep ns⟩
  · obtain ⟨M, e⟩ := h ns hl
    rw [e]
    exact fun β' H' v _ _ r => by
      have : v = .bl true := r
      subst this
      exact q H'
theorem sp_in {n : Nat} {K : PySem.W.Frag} {H : Hp} {a : Addr} {ns : List Int} (hl : ns.length ≤ n) (hO : Only H) (hS : SqL K H a (ns.map V.int)) : spLaw n K [.ref a] H (fun v _ => v = .bl true) fun _ _ _ => False := by
  refine ⟨a, ns, rfl, hl, ?_, fun _ => rfl⟩
  rcases hS with (h | h) | h
  · rcases hO a with q | ⟨o, xs, q⟩
    · rw [q] at h; cases h
    · rw [q] at h; cases h
  · exact .inl h
  · exact .inr h
theorem fn_law {P : Program} {w : World} {K : PySem.W.Frag} {mg : Str → Option Value} {base : Heap} {pg : Pg} {T : Tb} {xa fa : Nat → Addr} {n f d : Nat} {t : Fn} {fd : FuncData} {ps : List Str} (tab : Tab w K mg pg T xa fa) (I : ∀ f t, pg.fns[f]? = some t → ∃ fd ps, FnJ K T fa f t fd ps) (hf : pg.fns[f]? = some t) (J : FnJ K T fa f t fd ps) (ht : t.np = 1)
    (h : ∀ ns : List Int, ns.length ≤ n → ∃ M, (run pg).f d f [.fl (ns.map .int)] [] = .ok (.bl true) M) : FnOk P w K mg base (L2.CX P w) (d + 2) (fa f) fd ps (spLaw n K) := by
  have F := fn_run (P := P) (w := w) (base := base) (d := d) tab I hf J
  rw [ht] at F
  exact F.imp fun vs H Q E q => sp_law h vs H Q E q
end LX

set_option Elab.async false
set_option linter.all false
set_option maxRecDepth 100000
set_option maxHeartbeats 2000000
/-! LxSim: the run's equations, for the simplifier. -/
namespace LX
open PySem L2 PyProof.Rows
section
variable {P : Pg} {c : Cf} {ρ : Env} {M : MH}
@[simp] theorem bind_ok {α γ : Type} (a : α) (M : MH) (k : α → MH → Res γ) : (Res.ok a M).bind k = k a M := rfl
@[simp] theorem bind_exn {α γ : Type} (n : Nat) (fs : Flds) (M : MH) (k : α → MH → Res γ) : (Res.exn n fs M : Res α).bind k = .exn n fs M := rfl
@[simp] theorem sbind_ok {α : Type} (a : α) (ρ : Env) (M : MH) (k : α → MH → SRes) : (Res.ok a M).sbind ρ k = k a M := rfl
@[simp] theorem sbind_exn {α : Type} (n : Nat) (fs : Flds) (ρ : Env) (M : MH) (k : α → MH → SRes) : (Res.exn n fs M : Res α).sbind ρ k = .exn n fs ρ M := rfl
@[simp] theorem ssbind_nx (ρ : Env) (M : MH) (k : Env → MH → SRes) : (SRes.nx ρ M).sbind k = k ρ M := rfl
@[simp] theorem ssbind_rt (d : D) (M : MH) (k : Env → MH → SRes) : (SRes.rt d M).sbind k = .rt d M := rfl
@[simp] theorem ssbind_bk (ρ : Env) (M : MH) (k : Env → MH → SRes) : (SRes.bk ρ M).sbind k = .bk ρ M := rfl
@[simp] theorem ssbind_ct (ρ : Env) (M : MH) (k : Env → MH → SRes) : (SRes.ct ρ M).sbind k = .ct ρ M := rfl
@[simp] theorem ssbind_exn (n : Nat) (fs : Flds) (ρ : Env) (M : MH) (k : Env → MH → SRes) : (SRes.exn n fs ρ M).sbind k = .exn n fs ρ M := rfl
@[simp] theorem ofO_some {α : Type} (a : α) (M : MH) : ofO (some a) M = .ok a M := rfl
@[simp] theorem asI_int (i : Int) : asI (.int i) = some i := rfl
@[simp] theorem asBl_bl (b : Bool) : asBl (.bl b) = some b := rfl
@[simp] theorem tst_bl (b : Bool) (M : MH) (k : Bool → MH → Res D) : tst (.ok (.bl b) M) k = k b M := rfl
@[simp] theorem noExn_ok {α : Type} (a : α) (M : MH) : noExn (.ok a M : Res α) = .ok a M := rfl
@[simp] theorem e_var (i : Nat) : (run P).e c (.var i) ρ M = match ρ[i]? with
    | some (some d) => .ok d M
    | _ => .stuck := run_e
@[simp] theorem e_con (d : D) : (run P).e c (.con d) ρ M = .ok d M := run_e
@[simp] theorem e_tup (es : List E) : (run P).e c (.tup es) ρ M = ((run P).es c es ρ M).bind fun ds M => if ds.length ≤ lim then .ok (.tup ds) M else .stuck := run_e
@[simp] theorem e_lst (m : Bool) (es : List E) : (run P).e c (.lst m es) ρ M = ((run P).es c es ρ M).bind fun ds M => if ds.length ≤ lim then newL m ds M else .stuck := run_e
@[simp] theorem e_bin (m : Bool) (o : Operator) (a b : E) : (run P).e c (.bin m o a b) ρ M = ((run P).e c a ρ M).bind fun x M => ((run P).e c b ρ M).bind fun y M => binD m M o x y := run_e
@[simp] theorem e_neg (a : E) : (run P).e c (.neg a) ρ M = ((run P).e c a ρ M).bind fun x M => (ofO (asI x) M).bind fun i M => .ok (.int (-i)) M := run_e
@[simp] theorem e_cmp (o : CmpOp) (a b : E) : (run P).e c (.cmp o a b) ρ M = ((run P).e c a ρ M).bind fun x M => ((run P).e c b ρ M).bind fun y M => (ofO (cmpD M o x y) M).bind fun k M => .ok (.bl k) M := run_e
@[simp] theorem e_chain (o p : CmpOp) (a b e : E) : (run P).e c (.chain o p a b e) ρ M = ((run P).e c a ρ M).bind fun x M => ((run P).e c b ρ M).bind fun y M => (ofO (cmpD M o x y) M).bind fun k M =>
      if k then ((run P).e c e ρ M).bind fun z M => (ofO (cmpD M p y z) M).bind fun k M => .ok (.bl k) M else .ok (.bl false) M := run_e
@[simp] theorem e_and (a b : E) : (run P).e c (.and a b) ρ M = tst ((run P).e c a ρ M) fun k M => if k then tst ((run P).e c b ρ M) fun k M => .ok (.bl k) M else .ok (.bl false) M := run_e
@[simp] theorem e_or (a b : E) : (run P).e c (.or a b) ρ M = tst ((run P).e c a ρ M) fun k M => if k then .ok (.bl true) M else tst ((run P).e c b ρ M) fun k M => .ok (.bl k) M := run_e
@[simp] theorem e_not (a : E) : (run P).e c (.not a) ρ M = tst ((run P).e c a ρ M) fun k M => .ok (.bl (!k)) M := run_e
@[simp] theorem e_ite (t a b : E) : (run P).e c (.ite t a b) ρ M = tst ((run P).e c t ρ M) fun k M => if k then (run P).e c a ρ M else (run P).e c b ρ M := run_e
@[simp] theorem e_truth (a : E) : (run P).e c (.truth a) ρ M = ((run P).e c a ρ M).bind fun x M => (ofO (truthD M x) M).bind fun k M => .ok (.bl k) M := run_e
@[simp] theorem e_call (f : Nat) (es : List E) : (run P).e c (.call f es) ρ M = ((run P).es c es ρ M).bind fun ds M => (run P).f c.d f ds M := run_e
@[simp] theorem e_fn (m : Bool) (b : Bf) (es : List E) : (run P).e c (.fn m b es) ρ M = ((run P).es c es ρ M).bind fun ds M => fnD m M b ds := run_e
@[simp] theorem e_meth (t : Mt) (o : E) (es : List E) : (run P).e c (.meth t o es) ρ M = ((run P).e c o ρ M).bind fun x M => if recvOk M t x then ((run P).es c es ρ M).bind fun ds M => methD M t x ds else .stuck := run_e
@[simp] theorem e_ix (a i : E) : (run P).e c (.ix a i) ρ M = ((run P).e c a ρ M).bind fun x M => ((run P).e c i ρ M).bind fun y M => ofO (ixD M x y) M := run_e
@[simp] theorem e_cut (m : Bool) (a : E) (lo hi : Option E) : (run P).e c (.cut m a lo hi) ρ M = ((run P).e c a ρ M).bind fun x M => (optE (run P) c lo ρ M).bind fun l M => (optE (run P) c hi ρ M).bind fun h M => cutD m M x l h := run_e
@[simp] theorem e_rev (m : Bool) (a : E) : (run P).e c (.rev m a) ρ M = ((run P).e c a ρ M).bind fun x M => revD m M x := run_e
@[simp] theorem e_lc (m : Bool) (own : List Nat) (g : G) (it : E) (t : Option E) (e : E) : (run P).e c (.lc m own g it t e) ρ M = (itE (run P) c it ρ M).bind fun p M => (noExn (lcL (run P) c g p.1 p.2 t e (wipeE ρ own) p.1 [] M)).bind fun l M => newL m l M := run_e
@[simp] theorem e_lrng (m : Bool) (a : E) : (run P).e c (.lrng m a) ρ M = ((run P).e c a ρ M).bind fun x M => (ofO (rngS x) M).bind fun l M => newL m l M := run_e
@[simp] theorem e_lower (a : E) : (run P).e c (.lower a) ρ M = ((run P).e c a ρ M).bind fun x M => (ofO (lowD x) M).bind fun d M => .ok d M := run_e
@[simp] theorem e_lset (a : E) : (run P).e c (.lset a) ρ M = ((run P).e c a ρ M).bind fun x M => (ofO (texD M x) M).bind fun l M => if l.length < 1000 then .ok (.int (dist l.reverse).length) M else .stuck := run_e
@[simp] theorem e_stp (a : E) (lo : Option E) : (run P).e c (.stp a lo) ρ M = ((run P).e c a ρ M).bind fun x M => (optE (run P) c lo ρ M).bind fun l M => stpD M x l := run_e
@[simp] theorem e_srts (a : E) : (run P).e c (.srts a) ρ M = ((run P).e c a ρ M).bind fun x M => (ofO (texD M x) M).bind fun l M => if decide (l.length < 1000) && (oneL l && decide ((dist l.reverse).length < 64)) then .ok (.tl ((srtT l.reverse).map .str)) M else .stuck := run_e
@[simp] theorem e_callk (f n : Nat) (pm : List Nat) (es : List E) : (run P).e c (.callk f n pm es) ρ M = ((run P).es c es ρ M).bind fun ds M => if ds.length = n then (run P).f c.d f (permL pm ds) M else .stuck := run_e
theorem e_hcall {q d : Nat} {x : Nat × Flds} {t : Nat × List S} (h : P.qns[q]? = some t) : (run P).e ⟨d + 1, some x⟩ (.hcall q) ρ M = hres ((run P).ss ⟨d, some x⟩ t.2 (List.replicate t.1 none) M) := by
  rw [run_e]
  simp only [stepE, h]
@[simp] theorem e_sm (m : Bool) (k : Sm) (a b : E) : (run P).e c (.sm m k a b) ρ M = ((run P).e c a ρ M).bind fun x M => if isStrD x then ((run P).e c b ρ M).bind fun y M => smD m k M x y else .stuck := run_e
@[simp] theorem e_call0 (f : Nat) : (run P).e c (.call0 f) ρ M = noExn ((run P).f c.d f [] M) := run_e
@[simp] theorem e_tget (kvs : List (List Nat × D)) (a b : E) : (run P).e c (.tget kvs a b) ρ M = ((run P).e c a ρ M).bind fun x M => if isStrD x then ((run P).e c b ρ M).bind fun z M => .ok (tgetD kvs x z) M else .stuck := run_e
@[simp] theorem e_edic : (run P).e c .edic ρ M = .ok .edic M := run_e
@[simp] theorem e_isi (ks : List Kind) (a : E) : (run P).e c (.isi ks a) ρ M = ((run P).e c a ρ M).bind fun x M => .ok (.bl (isKind ks x)) M := run_e
@[simp] theorem e_xat (f : Str) : (run P).e c (.xat f) ρ M = match c.x with
    | some (_, fs) => ofO (fs.lookup f) M
    | none => .stuck := run_e
@[simp] theorem e_xisi (cs : List Nat) : (run P).e c (.xisi cs) ρ M = match c.x with
    | some (k, _) => match P.xcs[k]? with
      | some x => .ok (.bl (cs.any fun j => decide (j ∈ x.up))) M
      | none => .stuck
    | none => .stuck := run_e
@[simp] theorem es_nil : (run P).es c [] ρ M = .ok [] M := run_es
@[simp] theorem es_cons (e : E) (es : List E) : (run P).es c (e :: es) ρ M = ((run P).e c e ρ M).bind fun d M => ((run P).es c es ρ M).bind fun ds M => .ok (d :: ds) M := run_es
@[simp] theorem opt_none : optE (run P) c none ρ M = .ok none M := rfl
@[simp] theorem opt_some (e : E) : optE (run P) c (some e) ρ M = ((run P).e c e ρ M).bind fun d M => (ofO (asI d) M).bind fun i M => .ok (some i) M := rfl
@[simp] theorem it_rng1 (a : E) : itE (run P) c (.rng1 a) ρ M = ((run P).e c a ρ M).bind fun x M => (ofO (rng1D x) M).bind fun l M => .ok (l, none) M := rfl
@[simp] theorem it_rng3 (a b d : E) : itE (run P) c (.rng3 a b d) ρ M = ((run P).e c a ρ M).bind fun x M => ((run P).e c b ρ M).bind fun y M => ((run P).e c d ρ M).bind fun z M => (ofO (rng3D x y z) M).bind fun l M => .ok (l, none) M := rfl
@[simp] theorem it_rng2 (a b : E) : itE (run P) c (.rng2 a b) ρ M = ((run P).e c a ρ M).bind fun x M => ((run P).e c b ρ M).bind fun y M => (ofO (rng2D x y) M).bind fun l M => .ok (l, none) M := rfl
@[simp] theorem it_zip (a b : E) : itE (run P) c (.zip a b) ρ M = ((run P).e c a ρ M).bind fun x M => ((run P).e c b ρ M).bind fun y M => (ofO (zipD x y) M).bind fun l M => .ok (l, none) M := rfl
@[simp] theorem it_var (i : Nat) : itE (run P) c (.var i) ρ M = ((run P).e c (.var i) ρ M).bind fun d M => ofO (itemsD M d) M := rfl
@[simp] theorem it_con (d : D) : itE (run P) c (.con d) ρ M = ofO (itemsD M d) M := by
  show ((run P).e c (.con d) ρ M).bind _ = _
  simp
@[simp] theorem it_call (f : Nat) (es : List E) : itE (run P) c (.call f es) ρ M = ((run P).e c (.call f es) ρ M).bind fun d M => ofO (itemsD M d) M := rfl
@[simp] theorem it_cut (m : Bool) (a : E) (l h : Option E) : itE (run P) c (.cut m a l h) ρ M = ((run P).e c (.cut m a l h) ρ M).bind fun d M => ofO (itemsD M d) M := rfl
@[simp] theorem it_tup (es : List E) : itE (run P) c (.tup es) ρ M = ((run P).e c (.tup es) ρ M).bind fun d M => ofO (itemsD M d) M := rfl
@[simp] theorem it_bin (m : Bool) (o : Operator) (a b : E) : itE (run P) c (.bin m o a b) ρ M = ((run P).e c (.bin m o a b) ρ M).bind fun d M => ofO (itemsD M d) M := rfl
@[simp] theorem it_ix (a b : E) : itE (run P) c (.ix a b) ρ M = ((run P).e c (.ix a b) ρ M).bind fun d M => ofO (itemsD M d) M := rfl
@[simp] theorem it_lst (m : Bool) (es : List E) : itE (run P) c (.lst m es) ρ M = ((run P).e c (.lst m es) ρ M).bind fun d M => ofO (itemsD M d) M := rfl
@[simp] theorem ts_none : tests (run P) c none ρ M = .ok true M := rfl
@[simp] theorem ts_some (t : E) : tests (run P) c (some t) ρ M = ((run P).e c t ρ M).bind fun d M => ofO (asBl d) M := rfl
@[simp] theorem ss_nil' : (run P).ss c [] ρ M = .nx ρ M := run_ss
@[simp] theorem ss_cons' (t : S) (ts : List S) : (run P).ss c (t :: ts) ρ M = ((run P).s c t ρ M).sbind fun ρ M => (run P).ss c ts ρ M := run_ss
@[simp] theorem st_expr (e : E) : (run P).s c (.expr e) ρ M = ((run P).e c e ρ M).sbind ρ fun _ M => .nx ρ M := run_s
@[simp] theorem st_ret (e : E) : (run P).s c (.ret e) ρ M = ((run P).e c e ρ M).sbind ρ fun d M => .rt d M := run_s
@[simp] theorem st_retN : (run P).s c .retN ρ M = .rt .non M := run_s
@[simp] theorem st_pass : (run P).s c .pass ρ M = .nx ρ M := run_s
@[simp] theorem st_brk : (run P).s c .brk ρ M = .bk ρ M := run_s
@[simp] theorem st_cont : (run P).s c .cont ρ M = .ct ρ M := run_s
@[simp] theorem st_set (i : Nat) (e : E) : (run P).s c (.set i e) ρ M = ((run P).e c e ρ M).sbind ρ fun d M => .nx (ρ.set i (some d)) M := run_s
@[simp] theorem st_unp (is : List Nat) (e : E) : (run P).s c (.unp is e) ρ M = ((run P).e c e ρ M).sbind ρ fun d M => match bindG (.tup is) d ρ with
    | some ρ' => .nx ρ' M
    | none => .stuck := run_s
@[simp] theorem st_unl (is : List Nat) (e : E) : (run P).s c (.unl is e) ρ M = ((run P).e c e ρ M).sbind ρ fun d M => match tlOf M d with
    | some xs => if is.length = xs.length then .nx (setAll is xs ρ) M else .stuck
    | none => .stuck := run_s
@[simp] theorem st_par (i j : Nat) (a b : E) : (run P).s c (.par i j a b) ρ M = ((run P).e c a ρ M).sbind ρ fun x M => ((run P).e c b ρ M).sbind ρ fun y M => .nx ((ρ.set i (some x)).set j (some y)) M := run_s
@[simp] theorem st_par3 (i j k : Nat) (a b e : E) : (run P).s c (.par3 i j k a b e) ρ M = ((run P).e c a ρ M).sbind ρ fun x M => ((run P).e c b ρ M).sbind ρ fun y M => ((run P).e c e ρ M).sbind ρ fun z M => .nx (((ρ.set i (some x)).set j (some y)).set k (some z)) M := run_s
@[simp] theorem st_put (o i e : E) : (run P).s c (.put o i e) ρ M = ((run P).e c e ρ M).sbind ρ fun v M => ((run P).e c o ρ M).sbind ρ fun x M => ((run P).e c i ρ M).sbind ρ fun y M => match putD M x y v with
    | some M => .nx ρ M
    | none => .stuck := run_s
@[simp] theorem st_aug (i : Nat) (o : Operator) (e : E) : (run P).s c (.aug i o e) ρ M = match ρ[i]? with
    | some (some x) => ((run P).e c e ρ M).sbind ρ fun y M => (augD M o x y).sbind ρ fun d M => .nx (ρ.set i (some d)) M
    | _ => .stuck := run_s
@[simp] theorem st_ite (t : E) (a b : List S) : (run P).s c (.ite t a b) ρ M = ((run P).e c t ρ M).sbind ρ fun d M => match asBl d with
    | some true => (run P).ss c a ρ M
    | some false => (run P).ss c b ρ M
    | none => .stuck := run_s
theorem st_wh (t : E) (b : List S) : (run P).s c (.wh t b) ρ M = ((run P).e c t ρ M).sbind ρ fun d M => match asBl d with
    | some true => match (run P).ss c b ρ M with
      | .nx ρ M => (run P).s c (.wh t b) ρ M
      | .ct ρ M => (run P).s c (.wh t b) ρ M
      | .bk ρ M => .nx ρ M
      | r => r
    | some false => .nx ρ M
    | none => .stuck := run_s
@[simp] theorem st_for (g : G) (it : E) (b : List S) : (run P).s c (.for g it b) ρ M = (itE (run P) c it ρ M).sbind ρ fun p M => forL (run P) c g p.1 p.2 b p.1 ρ M := run_s
@[simp] theorem st_raise (k : Nat) (es : List E) : (run P).s c (.raise k es) ρ M = ((run P).es c es ρ M).sbind ρ fun ds M => match P.xcs[k]? with
    | some x => if x.flds.length = ds.length then .exn k (zipF x.flds ds) ρ M else .stuck
    | none => .stuck := run_s
@[simp] theorem st_try (b : List S) (hs : List (Nat × Option Nat × List S)) : (run P).s c (.try b hs) ρ M = match (run P).ss c b ρ M with
    | .exn k fs ρ M => if k < P.live then match clause P k hs with
      | some (n, b) => if slotIn n ρ then ((run P).ss { c with x := some (k, fs) } b (gone n ρ) M).map (gone n) else .stuck
      | none => .exn k fs ρ M
      else .stuck
    | r => r := run_s
/-- a call -/
theorem call_eq {d f : Nat} {t : Fn} {ds : List D} (hf : P.fns[f]? = some t) (hl : ds.length = t.np) : (run P).f (d + 1) f ds M = endF t.fz M.length ((run P).ss ⟨d, none⟩ t.body (startE t.ns ds) M) := by
  rw [run_f]
  unfold stepF
  rw [hf]
  exact if_pos hl
end
/-- the heap is closed -/
abbrev Cl (M : MH) : Prop := MH.und M.length M = true
theorem cl_nil : Cl [] := rfl
end LX
namespace LX
open PySem L2 PyProof.Rows
section
variable {P : Pg} {c : Cf} {g : G} {all : List D} {b : List S} {t : E}
/-- a loop that runs to its end -/
theorem for_nx (I : Nat → Env → MH → Prop) : ∀ {l : List D} {s : Nat} {ρ : Env} {M : MH}, (∀ i x ρ M, l[i]? = some x → I (s + i) ρ M → ∃ ρ1 ρ2 M2, bindG g x ρ = some ρ1 ∧ ((run P).ss c b ρ1 M = .nx ρ2 M2 ∨ (run P).ss c b ρ1 M = .ct ρ2 M2) ∧ I (s + i + 1) ρ2 M2) → I s ρ M →
    ∃ ρ' M', forL (run P) c g all none b l ρ M = .nx ρ' M' ∧ I (s + l.length) ρ' M'
  | [], s, ρ, M, _, h => ⟨ρ, M, by unfold forL; rfl, h⟩
  | x :: l, s, ρ, M, hs, h => by
    obtain ⟨ρ1, ρ2, M2, e1, e2, h2⟩ := hs 0 x ρ M rfl h
    obtain ⟨ρ', M', e3, h3⟩ := for_nx I (l := l) (s := s + 1) (ρ := ρ2) (M := M2) (fun i y ρ M e q => by
      have z := hs (i + 1) y ρ M (by simpa using e) (by rw [show s + (i + 1) = s + 1 + i by omega]; exact q)
      rw [show s + (i + 1) + 1 = s + 1 + i + 1 by omega] at z
      exact z) h2
    refine ⟨ρ', M', ?_, by rw [List.length_cons, show s + (l.length + 1) = s + 1 + l.length by omega]; exact h3⟩
    unfold forL
    rw [if_pos (show stays M all none = true from rfl), e1]
    dsimp only
    rcases e2 with e2 | e2
    · rw [e2]
      exact e3
    · rw [e2]
      exact e3
/-- a comprehension without a test -/
theorem lc_nx {e : E} {ρ : Env} (I : Nat → List D → MH → Prop) : ∀ {l acc : List D} {s : Nat} {M : MH}, (∀ i x acc M, l[i]? = some x → I (s + i) acc M → ∃ ρ1 v M2, bindG g x ρ = some ρ1 ∧ (run P).e c e ρ1 M = .ok v M2 ∧ I (s + i + 1) (acc ++ [v]) M2) → I s acc M → acc.length + l.length ≤ lim →
    ∃ r M', lcL (run P) c g all none none e ρ l acc M = .ok r M' ∧ I (s + l.length) r M'
  | [], acc, s, M, _, h, _ => ⟨acc, M, by unfold lcL; rfl, h⟩
  | x :: l, acc, s, M, hs, h, hz => by
    rw [List.length_cons] at hz
    obtain ⟨ρ1, v, M2, e1, e2, h2⟩ := hs 0 x acc M rfl h
    obtain ⟨r, M', e3, h3⟩ := lc_nx I (l := l) (acc := acc ++ [v]) (s := s + 1) (M := M2) (fun i y acc M e q => by
      have z := hs (i + 1) y acc M (by simpa using e) (by rw [show s + (i + 1) = s + 1 + i by omega]; exact q)
      rw [show s + (i + 1) + 1 = s + 1 + i + 1 by omega] at z
      exact z) h2 (by simp; omega)
    refine ⟨r, M', ?_, by rw [List.length_cons, show s + (l.length + 1) = s + 1 + l.length by omega]; exact h3⟩
    unfold lcL
    rw [if_pos (show stays M all none = true from rfl), e1]
    simp [e2]
    rw [if_pos (by omega)]
    exact e3
/-- a comprehension whose items are made by a function, the heap left alone -/
theorem lc_map {e : E} {ρ : Env} (f : D → D) {l acc : List D} {M : MH} (h : ∀ x ∈ l, ∃ ρ1, bindG g x ρ = some ρ1 ∧ (run P).e c e ρ1 M = .ok (f x) M) (hz : acc.length + l.length ≤ lim) :
    lcL (run P) c g all none none e ρ l acc M = .ok (acc ++ l.map f) M := by
  induction l generalizing acc with
  | nil => unfold lcL; rw [if_pos (show stays M all none = true from rfl)]; simp
  | cons x l ih =>
    rw [List.length_cons] at hz
    obtain ⟨ρ1, e1, e2⟩ := h x List.mem_cons_self
    unfold lcL
    rw [if_pos (show stays M all none = true from rfl), e1]
    simp [e2]
    rw [if_pos (by omega), ih (fun y hy => h y (List.mem_cons_of_mem _ hy)) (by simp; omega)]
    simp
/-- a while loop that runs to its end -/
theorem wh_nx (I : Nat → Env → MH → Prop) (h : ∀ k ρ M, I k ρ M → (run P).e c t ρ M = .ok (.bl false) M ∨ ((run P).e c t ρ M = .ok (.bl true) M ∧ ∃ ρ2 M2 k2, ((run P).ss c b ρ M = .nx ρ2 M2 ∨ (run P).ss c b ρ M = .ct ρ2 M2) ∧ k2 < k ∧ I k2 ρ2 M2)) :
    ∀ k ρ M, I k ρ M → ∃ ρ' M' k', (run P).s c (.wh t b) ρ M = .nx ρ' M' ∧ I k' ρ' M' ∧ (run P).e c t ρ' M' = .ok (.bl false) M' := by
  intro k
  induction k using Nat.strongRecOn with
  | ind k ih =>
    intro ρ M hi
    rcases h k ρ M hi with e | ⟨e, ρ2, M2, k2, e2, hk, h2⟩
    · refine ⟨ρ, M, k, ?_, hi, e⟩
      rw [st_wh, e]
      rfl
    · obtain ⟨ρ', M', k', e3, h3, h4⟩ := ih k2 hk ρ2 M2 h2
      refine ⟨ρ', M', k', ?_, h3, h4⟩
      rw [st_wh, e]
      rcases e2 with e2 | e2
      · simp [e2, e3]
      · simp [e2, e3]
end
end LX
namespace LX
open PySem L2 PyProof.Rows
/-! ### heaps with a cell at the end; plain data -/
@[simp] theorem lstAt_app {M : MH} {xs : List D} : lstAt (M ++ [.lst xs]) M.length = some xs := by
  unfold lstAt
  rw [List.getElem?_append_right (Nat.le_refl _), Nat.sub_self]
  rfl
@[simp] theorem set_app {M : MH} {m m' : MO} : (M ++ [m]).set M.length m' = M ++ [m'] := by
  rw [List.set_append_right _ _ (Nat.le_refl _), Nat.sub_self]
  rfl
@[simp] theorem take_app' {M : MH} {m : MO} : (M ++ [m]).take M.length = M := by simp
mutual
/-- ints, texts, None, True, False, and tuples of such -/
def D.pl : D → Bool
  | .non => true
  | .bl _ => true
  | .int _ => true
  | .str _ => true
  | .tup xs => D.pls xs
  | _ => false
def D.pls : List D → Bool
  | [] => true
  | x :: xs => D.pl x && D.pls xs
end
mutual
def D.sz : D → Nat
  | .tup xs => 1 + D.szs xs
  | _ => 1
def D.szs : List D → Nat
  | [] => 0
  | x :: xs => D.sz x + D.szs xs
end
mutual
theorem pl_und (n : Nat) : ∀ {d : D}, D.pl d = true → D.und n d = true
  | .non, _ => rfl
  | .bl _, _ => rfl
  | .int _, _ => rfl
  | .str _, _ => rfl
  | .tup xs, h => pls_und n (ds := xs) h
  | .tl _, h => by cases h
  | .fl _, h => by cases h
  | .ref _, h => by cases h
  | .edic, h => by cases h
theorem pls_und (n : Nat) : ∀ {ds : List D}, D.pls ds = true → D.undAll n ds = true
  | [], _ => rfl
  | d :: ds, h => by
    have h : (D.pl d && D.pls ds) = true := h
    rw [Bool.and_eq_true] at h
    show (D.und n d && D.undAll n ds) = true
    rw [pl_und n h.1, pls_und n h.2]
    rfl
end
theorem pls_mem : ∀ {ds : List D}, D.pls ds = true → ∀ d ∈ ds, D.pl d = true
  | [], _, d, h => by cases h
  | e :: ds, q, d, h => by
    have q : (D.pl e && D.pls ds) = true := q
    rw [Bool.and_eq_true] at q
    rcases List.mem_cons.mp h with rfl | h
    · exact q.1
    · exact pls_mem q.2 d h
theorem pls_of : ∀ {ds : List D}, (∀ d ∈ ds, D.pl d = true) → D.pls ds = true
  | [], _ => rfl
  | e :: ds, h => by
    show (D.pl e && D.pls ds) = true
    rw [h e List.mem_cons_self, pls_of fun d hd => h d (List.mem_cons_of_mem _ hd)]
    rfl
theorem szs_app : ∀ (xs ys : List D), D.szs (xs ++ ys) = D.szs xs + D.szs ys
  | [], ys => by show D.szs ys = 0 + D.szs ys; omega
  | x :: xs, ys => by
    show D.sz x + D.szs (xs ++ ys) = D.sz x + D.szs xs + D.szs ys
    rw [szs_app xs ys]
    omega
theorem sz_pos (d : D) : 1 ≤ D.sz d := by cases d <;> unfold D.sz <;> omega
theorem len_szs : ∀ xs : List D, xs.length ≤ D.szs xs
  | [] => Nat.le_refl _
  | x :: xs => by
    have h1 := sz_pos x
    have h2 := len_szs xs
    show xs.length + 1 ≤ D.sz x + D.szs xs
    omega
/-- the end of a def that hands back plain data and leaves what was there as it was -/
theorem endF_pl {M M' : MH} {d : D} (h : D.pl d = true) (hM : Cl M) (ht : M'.take M.length = M) : endF true M.length (.rt d M') = .ok d M := by
  have key : (D.und M.length d && MH.und M.length (M'.take M.length)) = true := by
    rw [ht, pl_und _ h]
    exact hM
  have fin : (if (D.und M.length d && MH.und M.length (M'.take M.length)) = true then Res.ok d (M'.take M.length) else .stuck) = .ok d M := by rw [if_pos key, ht]
  cases d with
  | ref k => cases h
  | _ => exact fin
end LX
namespace LX
open PySem L2 PyProof.Rows
theorem rngL_get {lo : Int} {n i : Nat} {x : D} (h : (rngL lo n)[i]? = some x) : i < n ∧ x = .int (lo + i) := by
  unfold rngL at h
  rw [List.getElem?_map] at h
  obtain ⟨k, e1, e2⟩ := Option.map_eq_some_iff.mp h
  have hi := (List.getElem?_eq_some_iff.mp e1).1
  rw [List.length_range] at hi
  rw [List.getElem?_range hi] at e1
  cases e1
  exact ⟨hi, e2.symm⟩
theorem rngL_len {lo : Int} {n : Nat} : (rngL lo n).length = n := by unfold rngL; rw [List.length_map, List.length_range]
theorem atI_at {α : Type} {xs : List α} {i : Nat} : L2.atI xs (i : Int) = xs[i]? := by
  unfold L2.atI L2.ixN
  by_cases h : i < xs.length
  · rw [if_pos (by omega), if_pos (by omega)]
    rfl
  · rw [if_pos (by omega), if_neg (by omega), List.getElem?_eq_none (by omega)]
    rfl
theorem atI_0 {α : Type} {xs : List α} : L2.atI xs 0 = xs[0]? := atI_at (i := 0)
theorem ixN_at {n i : Nat} (h : i < n) : L2.ixN n (i : Int) = some i := by
  unfold L2.ixN
  rw [if_pos (by omega), if_pos (by omega)]
  rfl
theorem fits_nat {n : Nat} (h : n ≤ lim) : fits (n : Int) = true := by
  unfold fits
  have : lim = 16777216 := rfl
  rw [decide_eq_true (by omega), decide_eq_true (by omega)]
  rfl
theorem rngS_nat {n : Nat} (h : n ≤ 16777216) : rngS (.int n) = some (rngL 0 n) := by
  show (if (decide (-(2 ^ 62) ≤ (n : Int)) && decide ((n : Int) ≤ 16777216)) = true then some (rngL 0 (n : Int).toNat) else none) = _
  rw [if_pos (by rw [Bool.and_eq_true, decide_eq_true_eq, decide_eq_true_eq]; omega)]
  rfl
theorem rng1_nat {n : Nat} (h : n ≤ lim) : rng1D (.int n) = some (rngL 0 n) := by
  show (if fits (n : Int) = true then some (rngL 0 (n : Int).toNat) else none) = _
  rw [if_pos (fits_nat h)]
  rfl
end LX
namespace LX
open PySem L2 PyProof.Rows
section
variable {m : Bool} {M : MH} {i j : Int} {s t : List Nat} {xs ys : List D} {d : D} {n : Nat}
@[simp] theorem len_str : fnD m M .len [.str s] = .ok (.int s.length) M := rfl
@[simp] theorem len_tup : fnD m M .len [.tup xs] = .ok (.int xs.length) M := rfl
@[simp] theorem len_tl : fnD m M .len [.tl xs] = .ok (.int xs.length) M := rfl
@[simp] theorem len_fl : fnD m M .len [.fl xs] = .ok (.int xs.length) M := rfl
@[simp] theorem len_ref : fnD m M .len [.ref n] = (ofO (lstAt M n) M).bind fun xs M => .ok (.int xs.length) M := rfl
@[simp] theorem abs_int : fnD m M .abs [.int i] = .ok (.int (if i < 0 then -i else i)) M := rfl
@[simp] theorem int_int : fnD m M .int [.int i] = .ok (.int i) M := rfl
@[simp] theorem int_bl {b : Bool} : fnD m M .int [.bl b] = .ok (.int (if b then 1 else 0)) M := rfl
@[simp] theorem max_int : fnD m M .max2 [.int i, .int j] = .ok (.int (if j > i then j else i)) M := rfl
@[simp] theorem min_int : fnD m M .min2 [.int i, .int j] = .ok (.int (if j < i then j else i)) M := rfl
@[simp] theorem list_str : fnD m M .list [.str s] = newL m (s.map fun c => .str [c]) M := rfl
@[simp] theorem list_tup : fnD m M .list [.tup xs] = newL m xs M := rfl
@[simp] theorem list_tl : fnD m M .list [.tl xs] = newL m xs M := rfl
@[simp] theorem list_fl : fnD m M .list [.fl xs] = newL m xs M := rfl
@[simp] theorem list_ref : fnD m M .list [.ref n] = (ofO (lstAt M n) M).bind fun xs M => newL m xs M := rfl
@[simp] theorem tuple_str : fnD m M .tuple [.str s] = .ok (.tup (s.map fun c => .str [c])) M := rfl
@[simp] theorem tuple_tup : fnD m M .tuple [.tup xs] = .ok (.tup xs) M := rfl
@[simp] theorem tuple_tl : fnD m M .tuple [.tl xs] = .ok (.tup xs) M := rfl
@[simp] theorem tuple_fl : fnD m M .tuple [.fl xs] = .ok (.tup xs) M := rfl
@[simp] theorem tuple_ref : fnD m M .tuple [.ref n] = (ofO (lstAt M n) M).bind fun xs M => .ok (.tup xs) M := rfl
@[simp] theorem newL_f : newL false xs M = .ok (.tl xs) M := rfl
@[simp] theorem newL_t : newL true xs M = .ok (.ref M.length) (M ++ [.lst xs]) := rfl
@[simp] theorem eq_int : cmpD M .Eq (.int i) (.int j) = some (i == j) := rfl
@[simp] theorem ne_int : cmpD M .NotEq (.int i) (.int j) = some (!(i == j)) := rfl
@[simp] theorem lt_int : cmpD M .Lt (.int i) (.int j) = some (decide (i < j)) := rfl
@[simp] theorem le_int : cmpD M .LtE (.int i) (.int j) = some (decide (i ≤ j)) := rfl
@[simp] theorem gt_int : cmpD M .Gt (.int i) (.int j) = some (decide (j < i)) := rfl
@[simp] theorem ge_int : cmpD M .GtE (.int i) (.int j) = some (decide (j ≤ i)) := rfl
@[simp] theorem eq_str : cmpD M .Eq (.str s) (.str t) = some (s == t) := rfl
@[simp] theorem ne_str : cmpD M .NotEq (.str s) (.str t) = some (!(s == t)) := rfl
@[simp] theorem eq_bl {a b : Bool} : cmpD M .Eq (.bl a) (.bl b) = some (a == b) := rfl
@[simp] theorem ne_bl {a b : Bool} : cmpD M .NotEq (.bl a) (.bl b) = some (!(a == b)) := rfl
@[simp] theorem is_non : cmpD M .Is d .non = some (isNon d) := by cases d <;> rfl
@[simp] theorem isn_non : cmpD M .IsNot d .non = some (!isNon d) := by cases d <;> rfl
@[simp] theorem isNon_non : isNon .non = true := rfl
@[simp] theorem isNon_int : isNon (.int i) = false := rfl
@[simp] theorem isNon_bl {b : Bool} : isNon (.bl b) = false := rfl
@[simp] theorem isNon_str : isNon (.str s) = false := rfl
@[simp] theorem isNon_tup : isNon (.tup xs) = false := rfl
@[simp] theorem isNon_tl : isNon (.tl xs) = false := rfl
@[simp] theorem add_int : binD m M .Add (.int i) (.int j) = .ok (.int (i + j)) M := rfl
@[simp] theorem sub_int : binD m M .Sub (.int i) (.int j) = .ok (.int (i - j)) M := rfl
theorem mul_int : binD m M .Mult (.int i) (.int j) = if smallI i || smallI j then .ok (.int (i * j)) M else if bigI i j then .ok (.int (i * j)) M else .stuck := rfl
theorem mul_l (h : smallI i = true) : binD m M .Mult (.int i) (.int j) = .ok (.int (i * j)) M := by rw [mul_int, h]; rfl
theorem mul_r (h : smallI j = true) : binD m M .Mult (.int i) (.int j) = .ok (.int (i * j)) M := by rw [mul_int, h, Bool.or_true]; rfl
theorem mod_int (h : j ≠ 0) : binD m M .Mod (.int i) (.int j) = .ok (.int (i.fmod j)) M := by
  show (if j ≠ 0 then _ else _) = _
  rw [if_pos h]
theorem div_int (h : j ≠ 0) (h2 : j.natAbs < 1073741824) : binD m M .FloorDiv (.int i) (.int j) = .ok (.int (i.fdiv j)) M := by
  show (if (decide (j ≠ 0) && decide (j.natAbs < 1073741824)) = true then _ else _) = _
  rw [decide_eq_true h, decide_eq_true h2]
  rfl
theorem add_str (h : s.length + t.length ≤ lim) : binD m M .Add (.str s) (.str t) = .ok (.str (s ++ t)) M := if_pos h
theorem add_tup (h : xs.length + ys.length ≤ lim) : binD m M .Add (.tup xs) (.tup ys) = .ok (.tup (xs ++ ys)) M := if_pos h
theorem add_tl (h : xs.length + ys.length ≤ lim) : binD m M .Add (.tl xs) (.tl ys) = newL m (xs ++ ys) M := by
  have e : binD m M .Add (.tl xs) (.tl ys) = if xs.length + ys.length ≤ lim then newL m (xs ++ ys) M else .stuck := rfl
  rw [e, if_pos h]
@[simp] theorem ix_ref : ixD M (.ref n) (.int i) = (lstAt M n).bind fun xs => L2.atI xs i := rfl
@[simp] theorem ix_tup : ixD M (.tup xs) (.int i) = L2.atI xs i := rfl
@[simp] theorem ix_tl : ixD M (.tl xs) (.int i) = L2.atI xs i := rfl
@[simp] theorem ix_fl : ixD M (.fl xs) (.int i) = L2.atI xs i := rfl
@[simp] theorem ix_str : ixD M (.str s) (.int i) = (L2.atI s i).map fun c => .str [c] := rfl
@[simp] theorem put_ref : putD M (.ref n) (.int i) d = (lstAt M n).bind fun xs => (L2.ixN xs.length i).map fun j => M.set n (.lst (xs.set j d)) := rfl
@[simp] theorem rev_str : revD m M (.str s) = .ok (.str s.reverse) M := rfl
@[simp] theorem rev_tup : revD m M (.tup xs) = .ok (.tup xs.reverse) M := rfl
@[simp] theorem tr_bl {b : Bool} : truthD M (.bl b) = some b := rfl
@[simp] theorem bind_one {ρ : Env} {k : Nat} : bindG (.one k) d ρ = some (ρ.set k (some d)) := rfl
@[simp] theorem append_ref : methD M .append (.ref n) [d] = (ofO (lstAt M n) M).bind fun xs M => if xs.length < lim then .ok .non (M.set n (.lst (xs ++ [d]))) else .stuck := rfl
@[simp] theorem pop0_ref : methD M .pop0 (.ref n) [] = (ofO (lstAt M n) M).bind fun xs M => (ofO (xs[xs.length - 1]?) M).bind fun d M => .ok d (M.set n (.lst xs.dropLast)) := rfl
@[simp] theorem recv_join : recvOk M .join (.str s) = true := rfl
@[simp] theorem recv_app : recvOk M .append (.ref n) = (lstAt M n).isSome := rfl
@[simp] theorem recv_pop0 : recvOk M .pop0 (.ref n) = (lstAt M n).isSome := rfl
@[simp] theorem recv_pop1 : recvOk M .pop1 (.ref n) = (lstAt M n).isSome := rfl
@[simp] theorem recv_ext : recvOk M .extend (.ref n) = (lstAt M n).isSome := rfl
@[simp] theorem items_tup : itemsD M (.tup xs) = some (xs, none) := rfl
@[simp] theorem items_tl : itemsD M (.tl xs) = some (xs, none) := rfl
@[simp] theorem items_fl : itemsD M (.fl xs) = some (xs, none) := rfl
@[simp] theorem items_str : itemsD M (.str s) = some (s.map fun c => .str [c], none) := rfl
end
end LX
namespace LX
open PySem L2 PyProof.Rows
mutual
theorem und_mono {n m : Nat} (h : n ≤ m) : ∀ {d : D}, D.und n d = true → D.und m d = true
  | .non, _ => rfl
  | .bl _, _ => rfl
  | .int _, _ => rfl
  | .str _, _ => rfl
  | .tup xs, q => unds_mono h (ds := xs) q
  | .tl xs, q => unds_mono h (ds := xs) q
  | .fl xs, q => unds_mono h (ds := xs) q
  | .ref k, q => decide_eq_true (Nat.lt_of_lt_of_le (of_decide_eq_true q) h)
  | .edic, _ => rfl
theorem unds_mono {n m : Nat} (h : n ≤ m) : ∀ {ds : List D}, D.undAll n ds = true → D.undAll m ds = true
  | [], _ => rfl
  | d :: ds, q => by
    have q : (D.und n d && D.undAll n ds) = true := q
    rw [Bool.and_eq_true] at q
    show (D.und m d && D.undAll m ds) = true
    rw [und_mono h q.1, unds_mono h q.2]
    rfl
end
theorem unds_of {n : Nat} : ∀ {ds : List D}, (∀ d ∈ ds, D.und n d = true) → D.undAll n ds = true
  | [], _ => rfl
  | e :: ds, h => by
    show (D.und n e && D.undAll n ds) = true
    rw [h e List.mem_cons_self, unds_of fun d hd => h d (List.mem_cons_of_mem _ hd)]
    rfl
theorem unds_mem {n : Nat} : ∀ {ds : List D}, D.undAll n ds = true → ∀ d ∈ ds, D.und n d = true
  | [], _, d, h => by cases h
  | e :: ds, q, d, h => by
    have q : (D.und n e && D.undAll n ds) = true := q
    rw [Bool.and_eq_true] at q
    rcases List.mem_cons.mp h with rfl | h
    · exact q.1
    · exact unds_mem q.2 d h
theorem mo_mono {n m : Nat} (h : n ≤ m) {o : MO} (q : MO.und n o = true) : MO.und m o = true := by
  cases o with
  | lst xs => exact unds_mono h (ds := xs) q
/-- no cell holds a list that is written to -/
def Nr (M : MH) : Prop := ∀ m ∈ M, MO.und 0 m = true
theorem Nr.cl {M : MH} (h : Nr M) (n : Nat) : MH.und n M = true := List.all_eq_true.mpr fun m hm => mo_mono (Nat.zero_le n) (h m hm)
theorem Nr.app {M N : MH} (h : Nr M) (h' : Nr N) : Nr (M ++ N) := fun m hm => (List.mem_append.mp hm).elim (h m) (h' m)
theorem Nr.cons {m : MO} {M : MH} (h : MO.und 0 m = true) (h' : Nr M) : Nr (m :: M) := fun x hx => (List.mem_cons.mp hx).elim (fun e => e ▸ h) (h' x)
theorem Nr.nil : Nr [] := fun m hm => by cases hm
theorem Nr.tail {m : MO} {M : MH} (h : Nr (m :: M)) : Nr M := fun x hx => h x (List.mem_cons_of_mem _ hx)
/-- the end of a def that hands back a list that it made -/
theorem endF_tl {M M' : MH} {n : Nat} {k : Nat} {xs : List D} (hk : ¬ k < n) (hl : lstAt M' k = some xs) (hx : D.undAll 0 xs = true) (ht : M'.take n = M) (hM : Nr M) : endF true n (.rt (.ref k) M') = .ok (.tl xs) M := by
  show freeze n (.ref k) M' = _
  unfold freeze
  dsimp only
  rw [if_neg hk, hl, ht]
  dsimp only
  rw [unds_mono (Nat.zero_le n) hx, hM.cl n]
  rfl
/-- .. that hands back a value without such lists -/
theorem endF_v {M M' : MH} {n : Nat} {d : D} (hd : D.und 0 d = true) (ht : M'.take n = M) (hM : Nr M) : endF true n (.rt d M') = .ok d M := by
  have key : (D.und n d && MH.und n (M'.take n)) = true := by
    rw [ht, und_mono (Nat.zero_le n) hd, hM.cl n]
    rfl
  have fin : (if (D.und n d && MH.und n (M'.take n)) = true then Res.ok d (M'.take n) else .stuck) = .ok d M := by rw [if_pos key, ht]
  cases d with
  | ref k => cases hd
  | _ => exact fin
theorem endF_nx {M M' : MH} {n : Nat} {ρ : Env} (ht : M'.take n = M) (hM : Nr M) : endF true n (.nx ρ M') = .ok .non M := endF_v (d := .non) rfl ht hM
end LX
namespace LX
open PySem L2 PyProof.Rows
def chs (l : List Nat) : List D := l.map fun c => .str [c]
theorem strs_chs : ∀ l : List Nat, strsL (chs l) = some (l.map fun c => [c])
  | [] => rfl
  | c :: l => by
    show (strsL (chs l)).map (fun r => [c] :: r) = _
    rw [strs_chs l]
    rfl
theorem join_sing : ∀ l : List Nat, joinS [] (l.map fun c => [c]) = l
  | [] => rfl
  | [c] => rfl
  | c :: d :: l => by
    show [c] ++ ([] ++ joinS [] ((d :: l).map fun c => [c])) = c :: d :: l
    rw [join_sing (d :: l)]
    rfl
theorem sum_sing : ∀ l : List Nat, ((l.map fun c => [c]).map List.length).sum = l.length
  | [] => rfl
  | c :: l => by
    show 1 + ((l.map fun c => [c]).map List.length).sum = l.length + 1
    rw [sum_sing l]
    omega
theorem join_of {M : MH} {x : D} {l : List Nat} (h : seqOf M x = some (chs l)) (hl : l.length ≤ lim) : methD M .join (.str []) [x] = .ok (.str l) M := by
  have e : methD M .join (.str []) [x] = (ofO ((seqOf M x).bind strsL) M).bind fun l M => if (l.map List.length).sum + l.length * ([] : List Nat).length ≤ 16777216 then .ok (.str (joinS [] l)) M else .stuck := rfl
  rw [e, h, Option.bind_some, strs_chs]
  show (if ((l.map fun c => [c]).map List.length).sum + (l.map fun c => [c]).length * 0 ≤ 16777216 then Res.ok (D.str (joinS [] (l.map fun c => [c]))) M else .stuck) = _
  rw [sum_sing, join_sing, if_pos (by rw [Nat.mul_zero]; exact hl)]
theorem join_tl {M : MH} {l : List Nat} (hl : l.length ≤ lim) : methD M .join (.str []) [.tl (chs l)] = .ok (.str l) M := join_of rfl hl
theorem join_ref {M : MH} {n : Nat} {l : List Nat} (h : lstAt M n = some (chs l)) (hl : l.length ≤ lim) : methD M .join (.str []) [.ref n] = .ok (.str l) M := join_of h hl
theorem mul_str {m : Bool} {M : MH} {z : List Nat} {k : Nat} (h : k ≤ 1000000) (h2 : z.length * k ≤ lim) : binD m M .Mult (.str z) (.int k) = .ok (.str (List.replicate k z).flatten) M := by
  have e : binD m M .Mult (.str z) (.int k) = if decide (0 ≤ (k : Int)) && decide ((k : Int) ≤ 1000000) && decide (z.length * (k : Int).toNat ≤ lim) then .ok (.str (List.replicate (k : Int).toNat z).flatten) M else .stuck := rfl
  rw [e, Int.toNat_natCast, decide_eq_true (by omega), decide_eq_true (by omega), decide_eq_true h2]
  rfl
theorem rep_len (k : Nat) (z : List Nat) : (List.replicate k z).flatten.length = k * z.length := by simp
end LX
namespace LX
open PySem L2 PyProof.Rows
theorem endF_x {M M' : MH} {n k : Nat} {fs : Flds} {ρ : Env} (hd : D.undAll 0 (fs.map (·.2)) = true) (ht : M'.take n = M) (hM : Nr M) : endF true n (.exn k fs ρ M') = .exn k fs M := by
  have key : (D.undAll n (fs.map (·.2)) && MH.und n (M'.take n)) = true := by
    rw [ht, unds_mono (Nat.zero_le n) hd, hM.cl n]
    rfl
  show (if (D.undAll n (fs.map (·.2)) && MH.und n (M'.take n)) = true then Res.exn k fs (M'.take n) else .stuck) = _
  rw [if_pos key, ht]
theorem nr_take {M : MH} : M.take M.length = M := List.take_length
end LX
namespace LX
open PySem L2 PyProof.Rows
mutual
theorem same_refl : ∀ d : D, D.same d d = true
  | .non => rfl
  | .bl b => by show (b == b) = true; exact beq_self_eq_true b
  | .int i => by show (i == i) = true; exact beq_self_eq_true i
  | .str s => by show (s == s) = true; exact beq_self_eq_true s
  | .tup xs => sames_refl xs
  | .tl xs => sames_refl xs
  | .fl xs => sames_refl xs
  | .ref n => by show (n == n) = true; exact beq_self_eq_true n
  | .edic => rfl
theorem sames_refl : ∀ ds : List D, D.sames ds ds = true
  | [] => rfl
  | d :: ds => by
    show (D.same d d && D.sames ds ds) = true
    rw [same_refl d, sames_refl ds]
    rfl
end
theorem stays_of {M : MH} {n : Nat} {xs : List D} (h : lstAt M n = some xs) : stays M xs (some n) = true := by
  show (match lstAt M n with
    | some ys => D.sames ys xs
    | none => false) = true
  rw [h]
  exact sames_refl xs
@[simp] theorem items_ref {M : MH} {n : Nat} : itemsD M (.ref n) = (lstAt M n).map fun xs => (xs, some n) := rfl
section
variable {P : Pg} {c : Cf} {g : G} {all : List D} {t : E}
/-- as lc_map, over a list that is written to elsewhere -/
theorem lc_mapC {e : E} {ρ : Env} (f : D → D) {chk : Option Nat} {l acc : List D} {M : MH} (hst : stays M all chk = true) (h : ∀ x ∈ l, ∃ ρ1, bindG g x ρ = some ρ1 ∧ (run P).e c e ρ1 M = .ok (f x) M) (hz : acc.length + l.length ≤ lim) :
    lcL (run P) c g all chk none e ρ l acc M = .ok (acc ++ l.map f) M := by
  induction l generalizing acc with
  | nil => unfold lcL; rw [if_pos hst]; simp
  | cons x l ih =>
    rw [List.length_cons] at hz
    obtain ⟨ρ1, e1, e2⟩ := h x List.mem_cons_self
    unfold lcL
    rw [if_pos hst, e1]
    simp [e2]
    rw [if_pos (by omega), ih (fun y hy => h y (List.mem_cons_of_mem _ hy)) (by simp; omega)]
    simp
end
theorem cutL_to {α : Type} {xs : List α} {k : Nat} (h : k ≤ xs.length) : cutL xs none (some (k : Int)) = xs.take k := by
  unfold cutL
  have e1 : HT.sIx xs.length 0 none = 0 := rfl
  have e2 : HT.sIx xs.length xs.length (some (k : Int)) = k := by
    show (if (k : Int) < 0 then ((k : Int) + (xs.length : Int)).toNat else min (k : Int).toNat xs.length) = k
    rw [if_neg (by omega), Int.toNat_natCast]
    omega
  rw [e1, e2, List.drop_zero, Nat.sub_zero]
@[simp] theorem cut_str' {m : Bool} {M : MH} {s : List Nat} {lo hi : Option Int} : cutD m M (.str s) lo hi = .ok (.str (cutL s lo hi)) M := rfl
@[simp] theorem cut_tup' {m : Bool} {M : MH} {xs : List D} {lo hi : Option Int} : cutD m M (.tup xs) lo hi = .ok (.tup (cutL xs lo hi)) M := rfl
@[simp] theorem cut_tl' {m : Bool} {M : MH} {xs : List D} {lo hi : Option Int} : cutD m M (.tl xs) lo hi = newL m (cutL xs lo hi) M := rfl
end LX

set_option Elab.async false
set_option linter.all false
set_option maxRecDepth 1000000
set_option maxHeartbeats 4000000
/-! LxPl: more for plain proofs: closed heaps, cells, slices, loops that end early. -/
namespace LX
open PySem L2 PyProof.Rows
theorem endF_vC {M M' : MH} {d : D} (hd : D.und 0 d = true) (ht : M'.take M.length = M) (hM : Cl M) : endF true M.length (.rt d M') = .ok d M := by
  have key : (D.und M.length d && MH.und M.length (M'.take M.length)) = true := by
    rw [ht, und_mono (Nat.zero_le _) hd]
    exact hM
  have fin : (if (D.und M.length d && MH.und M.length (M'.take M.length)) = true then Res.ok d (M'.take M.length) else .stuck) = .ok d M := by rw [if_pos key, ht]
  cases d with
  | ref k => cases hd
  | _ => exact fin
theorem endF_tlC {M M' : MH} {k : Nat} {xs : List D} (hk : ¬ k < M.length) (hl : lstAt M' k = some xs) (hx : D.undAll 0 xs = true) (ht : M'.take M.length = M) (hM : Cl M) : endF true M.length (.rt (.ref k) M') = .ok (.tl xs) M := by
  show freeze M.length (.ref k) M' = _
  unfold freeze
  dsimp only
  rw [if_neg hk, hl, ht]
  dsimp only
  rw [unds_mono (Nat.zero_le _) hx, show MH.und M.length M = true from hM]
  rfl
theorem endF_xC {M M' : MH} {k : Nat} {fs : Flds} {ρ : Env} (hd : D.undAll 0 (fs.map (·.2)) = true) (ht : M'.take M.length = M) (hM : Cl M) : endF true M.length (.exn k fs ρ M') = .exn k fs M := by
  have key : (D.undAll M.length (fs.map (·.2)) && MH.und M.length (M'.take M.length)) = true := by
    rw [ht, unds_mono (Nat.zero_le _) hd]
    exact hM
  show (if (D.undAll M.length (fs.map (·.2)) && MH.und M.length (M'.take M.length)) = true then Res.exn k fs (M'.take M.length) else .stuck) = _
  rw [if_pos key, ht]
theorem atI_last {α : Type} {xs : List α} {x : α} : L2.atI (xs ++ [x]) (-1) = some x := by
  unfold L2.atI L2.ixN
  rw [if_neg (by omega), if_pos (by simp; omega)]
  show (xs ++ [x])[(-1 + ((xs ++ [x]).length : Int)).toNat]? = some x
  rw [show (-1 + ((xs ++ [x]).length : Int)).toNat = xs.length by simp; omega]
  simp
theorem atI_1 {α : Type} {xs : List α} : L2.atI xs 1 = xs[1]? := atI_at (i := 1)
theorem atI_2 {α : Type} {xs : List α} : L2.atI xs 2 = xs[2]? := atI_at (i := 2)
theorem ixN_0 {n : Nat} : L2.ixN (n + 1) 0 = some 0 := ixN_at (i := 0) (by omega)
theorem ixN_1 {n : Nat} : L2.ixN (n + 2) 1 = some 1 := ixN_at (i := 1) (by omega)
theorem ixN_2 {n : Nat} : L2.ixN (n + 3) 2 = some 2 := ixN_at (i := 2) (by omega)
theorem ixN_last {n : Nat} : L2.ixN (n + 1) (-1) = some n := by
  unfold L2.ixN
  rw [if_neg (by omega), if_pos (by omega)]
  exact congrArg some (by omega)
end LX
namespace LX
open PySem L2 PyProof.Rows
theorem und_up {n m : Nat} {M : MH} (h : n ≤ m) (q : MH.und n M = true) : MH.und m M = true := List.all_eq_true.mpr fun o ho => mo_mono h (List.all_eq_true.mp q o ho)
theorem cl_snoc {M : MH} {xs : List D} (h : Cl M) (hx : D.undAll 0 xs = true) : Cl (M ++ [.lst xs]) := by
  refine List.all_eq_true.mpr fun o ho => ?_
  rcases List.mem_append.mp ho with ho | ho
  · exact mo_mono (by simp) (List.all_eq_true.mp h o ho)
  · rw [List.mem_singleton.mp ho]
    exact unds_mono (Nat.zero_le _) hx
theorem cl_set {M : MH} {r : Nat} {xs : List D} (h : Cl M) (hx : D.undAll 0 xs = true) : Cl (M.set r (.lst xs)) := by
  refine List.all_eq_true.mpr fun o ho => ?_
  rw [List.length_set]
  rcases List.mem_or_eq_of_mem_set ho with ho | rfl
  · exact List.all_eq_true.mp h o ho
  · exact unds_mono (Nat.zero_le _) hx
theorem lst_lt {M : MH} {r : Nat} {xs : List D} (h : lstAt M r = some xs) : r < M.length := by
  by_cases q : r < M.length
  · exact q
  · unfold lstAt at h
    rw [List.getElem?_eq_none (by omega)] at h
    cases h
theorem lst_set {M : MH} {r : Nat} {xs : List D} (h : r < M.length) : lstAt (M.set r (.lst xs)) r = some xs := by
  unfold lstAt
  rw [List.getElem?_set_self h]
theorem lst_set_ne {M : MH} {r s : Nat} {m : MO} (h : r ≠ s) : lstAt (M.set r m) s = lstAt M s := by
  unfold lstAt
  rw [List.getElem?_set_ne h]
theorem lst_snoc {M : MH} {s : Nat} {m : MO} (h : s < M.length) : lstAt (M ++ [m]) s = lstAt M s := by
  unfold lstAt
  rw [List.getElem?_append_left h]
theorem take_set_ge {α : Type} {M : List α} {n r : Nat} {m : α} (h : n ≤ r) : (M.set r m).take n = M.take n := by
  apply List.ext_getElem?
  intro i
  rw [List.getElem?_take, List.getElem?_take]
  split
  · rw [List.getElem?_set_ne (by omega)]
  · rfl
theorem take_snoc_le {α : Type} {M : List α} {n : Nat} {m : α} (h : n ≤ M.length) : (M ++ [m]).take n = M.take n := by
  rw [List.take_append_of_le_length h]
theorem add_ref {m : Bool} {M : MH} {n : Nat} {x y : List D} (h : lstAt M n = some x) (hz : x.length + y.length ≤ lim) : binD m M .Add (.ref n) (.tl y) = newL m (x ++ y) M := by
  have e : binD m M .Add (.ref n) (.tl y) = (ofO (lstAt M n) M).bind fun x M => (ofO (tlOf M (.tl y)) M).bind fun y M => if x.length + y.length ≤ lim then newL m (x ++ y) M else .stuck := rfl
  rw [e, h]
  show (if x.length + y.length ≤ lim then newL m (x ++ y) M else .stuck) = _
  rw [if_pos hz]
theorem mul_tl {m : Bool} {M : MH} {x : List D} {k : Nat} (h : k ≤ 1000000) (h2 : x.length * k ≤ lim) : binD m M .Mult (.tl x) (.int k) = newL m (List.replicate k x).flatten M := by
  have e : binD m M .Mult (.tl x) (.int k) = if decide (0 ≤ (k : Int)) && decide ((k : Int) ≤ 1000000) && decide (x.length * (k : Int).toNat ≤ lim) then newL m (List.replicate (k : Int).toNat x).flatten M else .stuck := rfl
  rw [e, Int.toNat_natCast, decide_eq_true (by omega), decide_eq_true (by omega), decide_eq_true h2]
  rfl
end LX
namespace LX
open PySem L2 PyProof.Rows
section
variable {P : Pg} {c : Cf} {g : G} {all : List D} {t : E}
/-- a comprehension with a test, the heap left alone -/
theorem lc_fil {e : E} {ρ : Env} (f : D → D) (q : D → Bool) {l acc : List D} {M : MH} (h : ∀ x ∈ l, ∃ ρ1, bindG g x ρ = some ρ1 ∧ (run P).e c t ρ1 M = .ok (.bl (q x)) M ∧ (q x = true → (run P).e c e ρ1 M = .ok (f x) M)) (hz : acc.length + l.length ≤ lim) :
    lcL (run P) c g all none (some t) e ρ l acc M = .ok (acc ++ (l.filter q).map f) M := by
  induction l generalizing acc with
  | nil => unfold lcL; rw [if_pos (show stays M all none = true from rfl)]; simp
  | cons x l ih =>
    rw [List.length_cons] at hz
    obtain ⟨ρ1, e1, e2, e3⟩ := h x List.mem_cons_self
    unfold lcL
    rw [if_pos (show stays M all none = true from rfl), e1]
    by_cases hq : q x = true
    · rw [hq] at e2
      have e4 := e3 hq
      simp [e2, e4, hq]
      rw [if_pos (by omega), ih (fun y hy => h y (List.mem_cons_of_mem _ hy)) (by simp; omega)]
      simp
    · have hq : q x = false := by simpa using hq
      rw [hq] at e2
      simp [e2, hq]
      exact ih (fun y hy => h y (List.mem_cons_of_mem _ hy)) (by omega)
end
end LX
namespace LX
open PySem L2 PyProof.Rows
theorem cutL_from {α : Type} {xs : List α} {k : Nat} (h : k ≤ xs.length) : cutL xs (some (k : Int)) none = xs.drop k := by
  unfold cutL
  have e1 : HT.sIx xs.length 0 (some (k : Int)) = k := by
    show (if (k : Int) < 0 then ((k : Int) + (xs.length : Int)).toNat else min (k : Int).toNat xs.length) = k
    rw [if_neg (by omega), Int.toNat_natCast]
    omega
  have e2 : HT.sIx xs.length xs.length none = xs.length := rfl
  rw [e1, e2, List.take_of_length_le (by simp)]
theorem cutL_mid {α : Type} {xs : List α} {i k : Nat} (h : i + k ≤ xs.length) : cutL xs (some (i : Int)) (some ((i + k : Nat) : Int)) = (xs.drop i).take k := by
  unfold cutL
  have e1 : HT.sIx xs.length 0 (some (i : Int)) = i := by
    show (if (i : Int) < 0 then ((i : Int) + (xs.length : Int)).toNat else min (i : Int).toNat xs.length) = i
    rw [if_neg (by omega), Int.toNat_natCast]
    omega
  have e2 : HT.sIx xs.length xs.length (some ((i + k : Nat) : Int)) = i + k := by
    show (if ((i + k : Nat) : Int) < 0 then (((i + k : Nat) : Int) + (xs.length : Int)).toNat else min ((i + k : Nat) : Int).toNat xs.length) = i + k
    rw [if_neg (by omega), Int.toNat_natCast]
    omega
  rw [e1, e2, Nat.add_sub_cancel_left]
theorem pop1_ref {M : MH} {n i : Nat} {xs : List D} {d : D} (h : lstAt M n = some xs) (hi : xs[i]? = some d) (hz : i ≤ lim) : methD M .pop1 (.ref n) [.int i] = .ok d (M.set n (.lst (xs.eraseIdx i))) := by
  have e : methD M .pop1 (.ref n) [.int i] = (ofO (lstAt M n) M).bind fun xs M => (ofO (if fits i then L2.ixN xs.length i else none) M).bind fun k M => (ofO (xs[k]?) M).bind fun d M => .ok d (M.set n (.lst (xs.eraseIdx k))) := rfl
  rw [e, h, fits_nat hz]
  have hl := (List.getElem?_eq_some_iff.mp hi).1
  simp [ixN_at hl, hi]
theorem sorted_tl {m : Bool} {M : MH} {l : List Int} (h : l.length < 64) : fnD m M .sorted [.tl (l.map .int)] = newL m ((sortI l).map .int) M := by
  have hi : ∀ l : List Int, intsL (l.map .int) = some l := by
    intro l
    induction l with
    | nil => rfl
    | cons i l ih => show (intsL (l.map .int)).map _ = _; rw [ih]; rfl
  have e : fnD m M .sorted [.tl (l.map .int)] = (ofO ((tlOf M (.tl (l.map .int))).bind intsL) M).bind fun l M => if l.length < 64 then newL m ((sortI l).map .int) M else .stuck := rfl
  rw [e]
  show (ofO (intsL (l.map .int)) M).bind _ = _
  rw [hi]
  exact if_pos h
theorem insI_len (a : Int) : ∀ l, (insI a l).length = l.length + 1
  | [] => rfl
  | b :: r => by
    unfold insI
    split
    · rfl
    · simp [insI_len a r]
theorem sortI_len : ∀ l, (sortI l).length = l.length
  | [] => rfl
  | a :: r => by rw [sortI, insI_len, sortI_len r]; rfl
theorem ints_of : ∀ {xs : List D}, (∀ x ∈ xs, ∃ i, x = .int i) → ∃ l : List Int, xs = l.map .int
  | [], _ => ⟨[], rfl⟩
  | x :: xs, h => by
    obtain ⟨i, rfl⟩ := h x List.mem_cons_self
    obtain ⟨l, rfl⟩ := ints_of fun y hy => h y (List.mem_cons_of_mem _ hy)
    exact ⟨i :: l, rfl⟩
end LX
namespace LX
open PySem L2 PyProof.Rows
theorem mul_tupB {m : Bool} {M : MH} {x : List D} {k : Nat} (h : x.length * k ≤ 1000000) (hk : k ≤ 1000000) : binD m M .Mult (.tup x) (.int k) = .ok (.tup (List.replicate k x).flatten) M := by
  have e : binD m M .Mult (.tup x) (.int k) = if fits (k : Int) && (x.isEmpty || decide (x.length * (k : Int).toNat ≤ 1000000)) then .ok (.tup (List.replicate (k : Int).toNat x).flatten) M else .stuck := rfl
  have hf : fits (k : Int) = true := fits_nat (by have : lim = 16777216 := rfl; omega)
  rw [e, Int.toNat_natCast, hf, decide_eq_true h, Bool.or_true]
  rfl
theorem mul_tup {m : Bool} {M : MH} {x : List D} {k : Nat} (h : k ≤ 1000) (h2 : x.length ≤ 1000) : binD m M .Mult (.tup x) (.int k) = .ok (.tup (List.replicate k x).flatten) M := mul_tupB (Nat.mul_le_mul h2 h) (by omega)
end LX
namespace LX
open PySem L2 PyProof.Rows
theorem ext_tl {M : MH} {n : Nat} {ys : List D} : methD M .extend (.ref n) [.tl ys] = (ofO (lstAt M n) M).bind fun xs M => if xs.length + ys.length ≤ lim then .ok .non (M.set n (.lst (xs ++ ys))) else .stuck := rfl
section
variable {P : Pg} {c : Cf} {g : G} {all : List D} {b : List S} {t : E}
/-- a loop that runs to its end, or hands back on its way -/
theorem for_ex (I : Nat → LX.Env → MH → Prop) (Rt : D → MH → Prop) : ∀ {l : List D} {s : Nat} {ρ : LX.Env} {M : MH}, (∀ i x ρ M, l[i]? = some x → I (s + i) ρ M → ∃ ρ1, bindG g x ρ = some ρ1 ∧ ((∃ ρ2 M2, (run P).ss c b ρ1 M = .nx ρ2 M2 ∧ I (s + i + 1) ρ2 M2) ∨ ∃ d M2, (run P).ss c b ρ1 M = .rt d M2 ∧ Rt d M2)) → I s ρ M →
    (∃ ρ' M', forL (run P) c g all none b l ρ M = .nx ρ' M' ∧ I (s + l.length) ρ' M') ∨ ∃ d M', forL (run P) c g all none b l ρ M = .rt d M' ∧ Rt d M'
  | [], s, ρ, M, _, h => .inl ⟨ρ, M, by unfold forL; rfl, h⟩
  | x :: l, s, ρ, M, hs, h => by
    obtain ⟨ρ1, e1, h2⟩ := hs 0 x ρ M rfl h
    have unf : forL (run P) c g all none b (x :: l) ρ M = match (run P).ss c b ρ1 M with
        | .nx ρ M => forL (run P) c g all none b l ρ M
        | .ct ρ M => forL (run P) c g all none b l ρ M
        | .bk ρ M => .nx ρ M
        | r => r := by
      conv => lhs; unfold forL
      rw [if_pos (show stays M all none = true from rfl), e1]
      all_goals rfl
    rcases h2 with ⟨ρ2, M2, e2, h2⟩ | ⟨d, M2, e2, h2⟩
    · have ih := for_ex I Rt (l := l) (s := s + 1) (ρ := ρ2) (M := M2) (fun i y ρ M e q => by
        have z := hs (i + 1) y ρ M (by simpa using e) (by rw [show s + (i + 1) = s + 1 + i by omega]; exact q)
        rw [show s + (i + 1) + 1 = s + 1 + i + 1 by omega] at z
        exact z) h2
      rw [unf, e2, List.length_cons, show s + (l.length + 1) = s + 1 + l.length by omega]
      exact ih
    · exact .inr ⟨d, M2, by rw [unf, e2], h2⟩
end
end LX
namespace LX
open PySem L2 PyProof.Rows
section
variable {P : Pg} {c : Cf} {g : G} {all : List D} {b : List S}
/-- one turn of a loop over what is not written -/
theorem for_step {x : D} {l : List D} {ρ ρ1 : LX.Env} {M : MH} (e1 : bindG g x ρ = some ρ1) : forL (run P) c g all none b (x :: l) ρ M = match (run P).ss c b ρ1 M with
    | .nx ρ M => forL (run P) c g all none b l ρ M
    | .ct ρ M => forL (run P) c g all none b l ρ M
    | .bk ρ M => .nx ρ M
    | r => r := by
  conv => lhs; unfold forL
  rw [if_pos (show stays M all none = true from rfl), e1]
  all_goals rfl
theorem for_end {ρ : LX.Env} {M : MH} : forL (run P) c g all none b [] ρ M = .nx ρ M := by unfold forL; rfl
end
theorem rngL_succ (i : Int) (n : Nat) : rngL i (n + 1) = .int i :: rngL (i + 1) n := by
  unfold rngL
  rw [List.range_succ_eq_map, List.map_cons, List.map_map]
  congr 1
  · simp
  · refine List.map_congr_left fun k _ => ?_
    show D.int (i + ((k + 1 : Nat) : Int)) = D.int (i + 1 + (k : Int))
    congr 1
    omega
theorem endF_nxC {M M' : MH} {ρ : LX.Env} (ht : M'.take M.length = M) (hM : Cl M) : endF true M.length (.nx ρ M') = .ok .non M := endF_vC (d := .non) rfl ht hM
end LX

set_option Elab.async false
set_option linter.all false
set_option maxRecDepth 1000000
set_option maxHeartbeats 4000000
namespace LK
open PySem L2 LX PyProof.Rows
def n_0 : List Str := ["thing"]
def f_0 : Fn := ⟨1, 1, [.ret (.and (.isi [.int] (.var 0)) (.not (.isi [.bool] (.var 0))))], true⟩
def n_1 : List Str := ["thing"]
def f_1 : Fn := ⟨1, 1, [.ret (.and (.call 0 [.var 0]) (.cmp .GtE (.var 0) (.con (.int 0))))], true⟩
def n_2 : List Str := ["thing", "words"]
def f_2 : Fn := ⟨2, 2, [.ret (.and (.isi [.str] (.var 0)) (.cmp .In (.var 0) (.var 1)))], true⟩
def n_3 : List Str := ["thing", "most", "at"]
def f_3 : Fn := ⟨2, 3, [.ite (.not (.isi [.tuple] (.var 0))) [.ret (.con (.bl false))] [], .for (.one 2) (.rng1 (.fn false .len [.var 0])) [.ite (.or (.not (.truth (.call 1 [.ix (.var 0) (.var 2)]))) (.cmp .GtE (.ix (.var 0) (.var 2)) (.var 1))) [.ret (.con (.bl false))] [], .ite (.and (.cmp .Gt (.var 2) (.con (.int 0))) (.cmp .GtE (.ix (.var 0) (.bin false .Sub (.var 2) (.con (.int 1)))) (.ix (.var 0) (.var 2)))) [.ret (.con (.bl false))] []], .ret (.con (.bl true))], true⟩
def n_4 : List Str := ["word", "signs", "sign"]
def f_4 : Fn := ⟨2, 3, [.for (.one 2) (.var 0) [.ite (.cmp .NotIn (.var 2) (.var 1)) [.ret (.con (.bl false))] []], .ret (.con (.bl true))], true⟩
def n_5 : List Str := ["thing"]
def f_5 : Fn := ⟨1, 1, [.ret (.and (.isi [.str] (.var 0)) (.and (.cmp .Gt (.fn false .len [.var 0]) (.con (.int 0))) (.call 4 [.var 0, .con (.str [65, 66, 67, 68, 69, 70, 71, 72, 73, 74, 75, 76, 77, 78, 79, 80, 81, 82, 83, 84, 85, 86, 87, 88, 89, 90])])))], true⟩
def n_6 : List Str := ["thing", "path"]
def f_6 : Fn := ⟨2, 2, [.ite (.or (.not (.isi [.tuple] (.var 0))) (.or (.cmp .Eq (.fn false .len [.var 0]) (.con (.int 0))) (.not (.isi [.str] (.ix (.var 0) (.con (.int 0))))))) [.raise 0 [.var 1, .con (.str [119, 111, 114, 100])]] [], .ite (.cmp .NotEq (.tget [([116, 104, 114, 101, 97, 100], (.int 3)), ([112, 97, 99, 107], (.int 3)), ([116, 117, 114, 110], (.int 3)), ([116, 104, 114, 111, 119], (.int 1)), ([114, 101, 112, 101, 97, 116], (.int 3))] (.ix (.var 0) (.con (.int 0))) (.con (.int 0))) (.fn false .len [.var 0])) [.raise 0 [.var 1, .con (.str [119, 111, 114, 100])]] []], true⟩
def n_7 : List Str := ["thing"]
def f_7 : Fn := ⟨1, 1, [.ret (.and (.call 1 [.var 0]) (.cmp .Lt (.var 0) (.con (.int 24))))], true⟩
def n_8 : List Str := ["thing", "path"]
def f_8 : Fn := ⟨2, 2, [.ite (.not (.truth (.call 7 [.ix (.var 0) (.con (.int 1))]))) [.raise 0 [.var 1, .con (.str [116, 97, 98, 108, 101, 116])]] [], .ite (.or (.not (.truth (.call 5 [.ix (.var 0) (.con (.int 2))]))) (.cmp .NotEq (.fn false .len [.ix (.var 0) (.con (.int 2))]) (.con (.int 4)))) [.raise 0 [.var 1, .con (.str [99, 111, 108, 111, 117, 114, 115])]] []], true⟩
def n_9 : List Str := ["thing", "path"]
def f_9 : Fn := ⟨2, 2, [.ite (.not (.truth (.call 7 [.ix (.var 0) (.con (.int 1))]))) [.raise 0 [.var 1, .con (.str [112, 97, 99, 107])]] [], .ite (.and (.cmp .Eq (.ix (.var 0) (.con (.int 0))) (.con (.str [112, 97, 99, 107]))) (.or (.not (.truth (.call 3 [.ix (.var 0) (.con (.int 2)), .con (.int 24)]))) (.cmp .Eq (.fn false .len [.ix (.var 0) (.con (.int 2))]) (.con (.int 0))))) [.raise 0 [.var 1, .con (.str [116, 97, 98, 108, 101, 116, 115])]] [], .ite (.and (.cmp .Eq (.ix (.var 0) (.con (.int 0))) (.con (.str [116, 117, 114, 110]))) (.not (.truth (.call 2 [.ix (.var 0) (.con (.int 2)), .tup [.con (.str [70]), .con (.str [66])]])))) [.raise 0 [.var 1, .con (.str [116, 117, 114, 110])]] []], true⟩
def n_10 : List Str := ["thing", "path"]
def f_10 : Fn := ⟨2, 2, [.ite (.or (.not (.truth (.call 0 [.ix (.var 0) (.con (.int 1))]))) (.not (.chain .LtE .LtE (.con (.int 2)) (.ix (.var 0) (.con (.int 1))) (.con (.int 40))))) [.raise 0 [.var 1, .con (.str [109, 97, 110, 121])]] [], .ite (.not (.isi [.tuple] (.ix (.var 0) (.con (.int 2))))) [.raise 0 [.var 1, .con (.str [115, 104, 97, 112, 101])]] [], .ite (.cmp .Eq (.fn false .len [.ix (.var 0) (.con (.int 2))]) (.con (.int 0))) [.raise 0 [.var 1, .con (.str [101, 109, 112, 116, 121])]] []], true⟩
def n_11 : List Str := ["thing", "path", "many", "depth"]
def f_11 : Fn := ⟨2, 4, [.expr (.call 6 [.var 0, .var 1]), .ite (.cmp .Eq (.ix (.var 0) (.con (.int 0))) (.con (.str [116, 104, 114, 101, 97, 100]))) [.expr (.call 8 [.var 0, .var 1])] [], .ite (.cmp .In (.ix (.var 0) (.con (.int 0))) (.tup [.con (.str [112, 97, 99, 107]), .con (.str [116, 117, 114, 110])])) [.expr (.call 9 [.var 0, .var 1])] [], .ite (.cmp .NotEq (.ix (.var 0) (.con (.int 0))) (.con (.str [114, 101, 112, 101, 97, 116]))) [.ret (.tup [.con (.int 1), .con (.int 0)])] [], .expr (.call 10 [.var 0, .var 1]), .unp [2, 3] (.call 12 [.ix (.var 0) (.con (.int 2)), .var 1]), .ret (.tup [.bin false .Add (.con (.int 1)) (.var 2), .bin false .Add (.con (.int 1)) (.var 3)])], true⟩
def n_12 : List Str := ["code", "path", "many", "depth", "at", "more", "deep"]
def f_12 : Fn := ⟨2, 7, [.set 2 (.con (.int 0)), .set 3 (.con (.int 0)), .for (.one 4) (.rng1 (.fn false .len [.var 0])) [.unp [5, 6] (.call 11 [.ix (.var 0) (.var 4), .bin false .Add (.var 1) (.tup [.var 4])]), .aug 2 .Add (.var 5), .set 3 (.fn false .max2 [.var 3, .var 6])], .ret (.tup [.var 2, .var 3])], true⟩
def n_13 : List Str := ["thing", "many", "depth"]
def f_13 : Fn := ⟨1, 3, [.ite (.not (.isi [.tuple] (.var 0))) [.raise 0 [.tup [], .con (.str [115, 104, 97, 112, 101])]] [], .unp [1, 2] (.call 12 [.var 0, .tup []]), .ite (.or (.cmp .Gt (.var 1) (.con (.int 2000))) (.cmp .Gt (.var 2) (.con (.int 20)))) [.raise 0 [.tup [], .con (.str [115, 105, 122, 101])]] [], .ret (.var 1)], true⟩
def n_14 : List Str := ["thing"]
def f_14 : Fn := ⟨1, 1, [.try [.expr (.call 13 [.var 0])] [(0, none, [.ret (.con (.bl false))])], .ret (.con (.bl true))], true⟩
def n_15 : List Str := ["code"]
def f_15 : Fn := ⟨1, 1, [.ret (.ix (.call 12 [.var 0, .tup []]) (.con (.int 0)))], true⟩
def n_16 : List Str := ["code"]
def f_16 : Fn := ⟨1, 1, [.ret (.ix (.call 12 [.var 0, .tup []]) (.con (.int 1)))], true⟩
def n_17 : List Str := ["script", "stirred", "great", "k", "cell"]
def f_17 : Fn := ⟨1, 5, [.set 1 (.con (.int 23011)), .set 2 (.lst true []), .for (.one 3) (.rng1 (.fn false .min2 [.fn false .len [.var 0], .con (.int 60)])) [.set 4 (.bin false .Mod (.fn false .abs [.fn false .int [.ix (.var 0) (.var 3)]]) (.bin false .LShift (.con (.int 1)) (.con (.int 1800)))), .set 1 (.bin false .Mod (.fn false .int [.bin false .Add (.bin false .Add (.bin false .Add (.bin false .Mult (.var 1) (.con (.int 48271))) (.bin false .Mod (.var 4) (.con (.int 998071)))) (.bin false .Mult (.con (.int 41)) (.var 3))) (.con (.int 5))]) (.con (.int 2147483647))), .ite (.cmp .GtE (.var 4) (.bin false .Pow (.con (.int 10)) (.con (.int 18)))) [.expr (.meth .append (.var 2) [.var 4])] []], .ret (.lst true [.var 1, .var 2])], false⟩
def n_18 : List Str := ["tape", "many", "cell"]
def f_18 : Fn := ⟨2, 3, [.ite (.cmp .Gt (.fn false .len [.ix (.var 0) (.con (.int 1))]) (.con (.int 0))) [.set 2 (.ix (.ix (.var 0) (.con (.int 1))) (.neg (.con (.int 1)))), .ite (.cmp .Lt (.var 2) (.var 1)) [.expr (.meth .pop0 (.ix (.var 0) (.con (.int 1))) [])] [.put (.ix (.var 0) (.con (.int 1))) (.neg (.con (.int 1))) (.bin false .FloorDiv (.var 2) (.var 1))], .ret (.bin false .Mod (.fn false .int [.var 2]) (.var 1))] [], .put (.var 0) (.con (.int 0)) (.bin false .Mod (.fn false .int [.bin false .Add (.bin false .Mult (.ix (.var 0) (.con (.int 0))) (.con (.int 39373))) (.con (.int 43))]) (.con (.int 2147483647))), .ret (.bin false .Mod (.bin false .FloorDiv (.ix (.var 0) (.con (.int 0))) (.con (.int 64))) (.var 1))], true⟩
def n_19 : List Str := ["tape", "things"]
def f_19 : Fn := ⟨2, 2, [.ret (.ix (.var 1) (.call 18 [.var 0, .fn false .len [.var 1]]))], true⟩
def n_20 : List Str := ["tape", "things", "rest", "told", "lap"]
def f_20 : Fn := ⟨2, 5, [.set 2 (.fn true .list [.var 1]), .set 3 (.lst true []), .for (.one 4) (.rng1 (.fn false .len [.var 1])) [.expr (.meth .append (.var 3) [.meth .pop1 (.var 2) [.call 18 [.var 0, .fn false .len [.var 2]]]])], .ret (.var 3)], true⟩
def n_21 : List Str := ["told", "due", "rest", "one", "other", "k"]
def f_21 : Fn := ⟨2, 6, [.set 2 (.lst true [.tup [.var 0, .var 1]]), .wh (.cmp .Gt (.fn false .len [.var 2]) (.con (.int 0))) [.unp [3, 4] (.meth .pop0 (.var 2) []), .ite (.or (.cmp .Is (.var 3) (.con .non)) (.cmp .Is (.var 4) (.con .non))) [.ite (.or (.cmp .IsNot (.var 3) (.con .non)) (.cmp .IsNot (.var 4) (.con .non))) [.ret (.con (.bl false))] []] [.ite (.isi [.tuple, .list] (.var 4)) [.ite (.or (.cmp .NotEq (.isi [.tuple] (.var 3)) (.isi [.tuple] (.var 4))) (.or (.cmp .NotEq (.isi [.list] (.var 3)) (.isi [.list] (.var 4))) (.cmp .NotEq (.fn false .len [.var 3]) (.fn false .len [.var 4])))) [.ret (.con (.bl false))] [], .for (.one 5) (.rng1 (.fn false .len [.var 4])) [.expr (.meth .append (.var 2) [.tup [.ix (.var 3) (.var 5), .ix (.var 4) (.var 5)]])]] [.ite (.or (.cmp .NotEq (.isi [.bool] (.var 3)) (.isi [.bool] (.var 4))) (.cmp .NotEq (.isi [.str] (.var 3)) (.isi [.str] (.var 4)))) [.ret (.con (.bl false))] [.ite (.or (.not (.isi [.int, .str] (.var 3))) (.cmp .NotEq (.var 3) (.var 4))) [.ret (.con (.bl false))] []]]]], .ret (.con (.bl true))], true⟩
def n_22 : List Str := ["thing", "low", "high"]
def f_22 : Fn := ⟨3, 3, [.ret (.and (.isi [.int] (.var 0)) (.and (.not (.isi [.bool] (.var 0))) (.chain .LtE .LtE (.var 1) (.var 0) (.var 2))))], true⟩
def n_23 : List Str := ["one", "some", "k", "sign", "tablet"]
def f_23 : Fn := ⟨1, 5, [.ite (.or (.not (.isi [.tuple] (.var 0))) (.or (.cmp .Eq (.fn false .len [.var 0]) (.con (.int 0))) (.or (.not (.isi [.str] (.ix (.var 0) (.con (.int 0))))) (.cmp .NotIn (.tup [.ix (.var 0) (.con (.int 0)), .fn false .len [.var 0]]) (.lst false [.tup [.con (.str [116, 104, 114, 101, 97, 100]), .con (.int 3)], .tup [.con (.str [112, 97, 99, 107]), .con (.int 3)], .tup [.con (.str [116, 117, 114, 110]), .con (.int 3)], .tup [.con (.str [116, 104, 114, 111, 119]), .con (.int 1)], .tup [.con (.str [114, 101, 112, 101, 97, 116]), .con (.int 3)]]))))) [.ret (.con (.str [119, 111, 114, 100]))] [], .ite (.cmp .Eq (.ix (.var 0) (.con (.int 0))) (.con (.str [116, 104, 114, 101, 97, 100]))) [.ite (.not (.truth (.call 22 [.ix (.var 0) (.con (.int 1)), .con (.int 0), .con (.int 23)]))) [.ret (.con (.str [116, 97, 98, 108, 101, 116]))] [], .ite (.or (.not (.isi [.str] (.ix (.var 0) (.con (.int 2))))) (.or (.cmp .NotEq (.fn false .len [.ix (.var 0) (.con (.int 2))]) (.con (.int 4))) (.cmp .Gt (.fn false .len [.lc false [3] (.one 3) (.ix (.var 0) (.con (.int 2))) (some (.cmp .NotIn (.var 3) (.con (.str [65, 66, 67, 68, 69, 70, 71, 72, 73, 74, 75, 76, 77, 78, 79, 80, 81, 82, 83, 84, 85, 86, 87, 88, 89, 90])))) (.var 3)]) (.con (.int 0))))) [.ret (.con (.str [99, 111, 108, 111, 117, 114, 115]))] []] [], .ite (.and (.cmp .In (.ix (.var 0) (.con (.int 0))) (.tup [.con (.str [112, 97, 99, 107]), .con (.str [116, 117, 114, 110])])) (.not (.truth (.call 22 [.ix (.var 0) (.con (.int 1)), .con (.int 0), .con (.int 23)])))) [.ret (.con (.str [112, 97, 99, 107]))] [], .ite (.cmp .Eq (.ix (.var 0) (.con (.int 0))) (.con (.str [112, 97, 99, 107]))) [.set 1 (.ix (.var 0) (.con (.int 2))), .ite (.or (.not (.isi [.tuple] (.var 1))) (.or (.cmp .Eq (.fn false .len [.var 1]) (.con (.int 0))) (.cmp .Gt (.fn false .len [.lc false [4] (.one 4) (.var 1) (some (.not (.truth (.call 22 [.var 4, .con (.int 0), .con (.int 23)])))) (.var 4)]) (.con (.int 0))))) [.ret (.con (.str [116, 97, 98, 108, 101, 116, 115]))] [], .ite (.cmp .Gt (.fn false .len [.lc false [2] (.one 2) (.rng2 (.con (.int 1)) (.fn false .len [.var 1])) (some (.cmp .GtE (.ix (.var 1) (.bin false .Sub (.var 2) (.con (.int 1)))) (.ix (.var 1) (.var 2)))) (.var 2)]) (.con (.int 0))) [.ret (.con (.str [116, 97, 98, 108, 101, 116, 115]))] []] [], .ite (.and (.cmp .Eq (.ix (.var 0) (.con (.int 0))) (.con (.str [116, 117, 114, 110]))) (.or (.not (.isi [.str] (.ix (.var 0) (.con (.int 2))))) (.cmp .NotIn (.ix (.var 0) (.con (.int 2))) (.tup [.con (.str [70]), .con (.str [66])])))) [.ret (.con (.str [116, 117, 114, 110]))] [], .ite (.cmp .Eq (.ix (.var 0) (.con (.int 0))) (.con (.str [114, 101, 112, 101, 97, 116]))) [.ite (.not (.truth (.call 22 [.ix (.var 0) (.con (.int 1)), .con (.int 2), .con (.int 40)]))) [.ret (.con (.str [109, 97, 110, 121]))] [], .ite (.not (.isi [.tuple] (.ix (.var 0) (.con (.int 2))))) [.ret (.con (.str [115, 104, 97, 112, 101]))] [], .ite (.cmp .Eq (.fn false .len [.ix (.var 0) (.con (.int 2))]) (.con (.int 0))) [.ret (.con (.str [101, 109, 112, 116, 121]))] []] [], .ret (.con .non)], true⟩
def n_24 : List Str := ["thing", "rest", "count", "deep", "word", "k", "one", "path", "around"]
def f_24 : Fn := ⟨1, 9, [.ite (.not (.isi [.tuple] (.var 0))) [.ret (.tup [.con (.str [98, 97, 100]), .tup [], .con (.str [115, 104, 97, 112, 101])])] [], .set 1 (.lc true [5] (.one 5) (.rng3 (.bin false .Sub (.fn false .len [.var 0]) (.con (.int 1))) (.neg (.con (.int 1))) (.neg (.con (.int 1)))) none (.tup [.ix (.var 0) (.var 5), .tup [.var 5], .con (.int 0)])), .set 2 (.con (.int 0)), .set 3 (.con (.int 0)), .wh (.cmp .Gt (.fn false .len [.var 1]) (.con (.int 0))) [.unp [6, 7, 8] (.meth .pop0 (.var 1) []), .set 4 (.call 23 [.var 6]), .ite (.cmp .IsNot (.var 4) (.con .non)) [.ret (.tup [.con (.str [98, 97, 100]), .var 7, .var 4])] [], .set 2 (.bin false .Add (.var 2) (.con (.int 1))), .ite (.cmp .Eq (.ix (.var 6) (.con (.int 0))) (.con (.str [114, 101, 112, 101, 97, 116]))) [.set 3 (.fn false .max2 [.var 3, .bin false .Add (.var 8) (.con (.int 1))]), .expr (.meth .extend (.var 1) [.lc false [5] (.one 5) (.rng3 (.bin false .Sub (.fn false .len [.ix (.var 6) (.con (.int 2))]) (.con (.int 1))) (.neg (.con (.int 1))) (.neg (.con (.int 1)))) none (.tup [.ix (.ix (.var 6) (.con (.int 2))) (.var 5), .bin false .Add (.var 7) (.tup [.var 5]), .bin false .Add (.var 8) (.con (.int 1))])])] []], .ret (.ite (.or (.cmp .Gt (.var 2) (.con (.int 2000))) (.cmp .Gt (.var 3) (.con (.int 20)))) (.tup [.con (.str [98, 97, 100]), .tup [], .con (.str [115, 105, 122, 101])]) (.tup [.con (.str [116, 111, 108, 100]), .var 2, .var 3]))], true⟩
def n_25 : List Str := ["tape", "k"]
def f_25 : Fn := ⟨1, 2, [.ret (.meth .join (.con (.str [])) [.lc false [1] (.one 1) (.rng1 (.con (.int 4))) none (.call 19 [.var 0, .con (.str [65, 66, 90, 75, 65, 66, 65, 66])])])], true⟩
def n_26 : List Str := ["tape", "way"]
def f_26 : Fn := ⟨1, 2, [.set 1 (.call 18 [.var 0, .con (.int 7)]), .ite (.cmp .Eq (.var 1) (.con (.int 0))) [.ret (.tup [.con (.str [116, 104, 114, 101, 97, 100]), .call 19 [.var 0, .lst false [.con (.int 0), .con (.int 1), .con (.int 23), .call 18 [.var 0, .con (.int 24)]]], .call 25 [.var 0]])] [], .ite (.cmp .Eq (.var 1) (.con (.int 1))) [.ret (.tup [.con (.str [112, 97, 99, 107]), .call 19 [.var 0, .lst false [.con (.int 0), .con (.int 23), .call 18 [.var 0, .con (.int 24)]]], .fn false .tuple [.fn false .sorted [.cut false (.call 20 [.var 0, .lrng false (.con (.int 24))]) none (some (.bin false .Add (.con (.int 1)) (.call 18 [.var 0, .con (.int 4)])))]]])] [], .ite (.cmp .Lt (.var 1) (.con (.int 5))) [.ret (.tup [.con (.str [116, 117, 114, 110]), .call 19 [.var 0, .lst false [.con (.int 0), .con (.int 1), .con (.int 23)]], .call 19 [.var 0, .lst false [.con (.str [70]), .con (.str [66])]]])] [], .ret (.tup [.con (.str [116, 104, 114, 111, 119])])], true⟩
def n_27 : List Str := ["tape", "many", "code", "lap", "k", "at", "size"]
def f_27 : Fn := ⟨2, 7, [.set 2 (.lc false [4] (.one 4) (.rng1 (.call 18 [.var 0, .bin false .Add (.var 1) (.con (.int 1))])) none (.call 26 [.var 0])), .for (.one 3) (.rng1 (.call 18 [.var 0, .con (.int 4)])) [.ite (.cmp .Gt (.fn false .len [.var 2]) (.con (.int 0))) [.set 5 (.call 18 [.var 0, .fn false .len [.var 2]]), .set 6 (.bin false .Add (.con (.int 1)) (.call 18 [.var 0, .fn false .min2 [.con (.int 4), .bin false .Sub (.fn false .len [.var 2]) (.var 5)]])), .set 2 (.bin false .Add (.bin false .Add (.cut false (.var 2) none (some (.var 5))) (.lst false [.tup [.con (.str [114, 101, 112, 101, 97, 116]), .call 19 [.var 0, .lst false [.con (.int 2), .con (.int 40), .bin false .Add (.con (.int 2)) (.call 18 [.var 0, .con (.int 5)])]], .fn false .tuple [.cut false (.var 2) (some (.var 5)) (some (.bin false .Add (.var 5) (.var 6)))]]])) (.cut false (.var 2) (some (.bin false .Add (.var 5) (.var 6))) none))] []], .ret (.fn false .tuple [.var 2])], true⟩
def n_28 : List Str := ["thing", "wrong"]
def f_28 : Fn := ⟨1, 2, [.try [.ret (.tup [.con (.str [116, 111, 108, 100]), .call 13 [.var 0]])] [(0, some 1, [.ite (.or (.not (.xisi [2])) (.xisi [3, 4])) [.ret (.tup [.con (.str [111, 116, 104, 101, 114])])] [], .ret (.tup [.con (.str [98, 97, 100]), .xat "path", .xat "word"])]), (1, none, [.ret (.tup [.con (.str [111, 116, 104, 101, 114])])])]], true⟩
def n_29 : List Str := ["tape", "throw", "words", "turns", "threads", "packs", "repeats"]
def f_29 : Fn := ⟨1, 7, [.set 1 (.tup [.con (.str [116, 104, 114, 111, 119])]), .set 2 (.lst false [.con .non, .tup [], .tup [.con (.str [116, 104, 114, 111, 119]), .con (.int 0)], .lst false [.con (.str [116, 104, 114, 111, 119])], .tup [.con (.str [116, 117, 114, 110]), .con (.int 0)], .tup [.con (.str [108, 111, 111, 112]), .con (.int 2), .tup [.var 1]], .con (.str [116, 104, 114, 111, 119]), .con (.int 7), .tup [.con (.str [116, 117, 114, 110]), .con (.int 0), .con (.str [70]), .con (.int 0)], .tup [.con (.int 0), .con (.int 1), .con (.int 2)], .tup [.con (.str [84, 104, 114, 111, 119])]]), .set 3 (.lst false [.tup [.con (.str [116, 117, 114, 110]), .con (.int 24), .con (.str [70])], .tup [.con (.str [116, 117, 114, 110]), .con (.bl true), .con (.str [70])], .tup [.con (.str [116, 117, 114, 110]), .con (.int 0), .con (.str [102])], .tup [.con (.str [116, 117, 114, 110]), .con (.int 0), .con (.str [70, 66])], .tup [.con (.str [116, 117, 114, 110]), .con (.int 0), .con (.str [])]]), .set 3 (.bin false .Add (.var 3) (.lst false [.tup [.con (.str [116, 117, 114, 110]), .neg (.con (.int 1)), .con (.str [66])], .tup [.con (.str [116, 117, 114, 110]), .con (.int 24), .con (.str [88])], .tup [.con (.str [116, 117, 114, 110]), .con (.int 0), .con .non], .tup [.con (.str [116, 117, 114, 110]), .con (.int 23), .con (.str [66])], .tup [.con (.str [116, 117, 114, 110]), .con (.str [48]), .con (.str [70])]])), .set 4 (.lst false [.tup [.con (.str [116, 104, 114, 101, 97, 100]), .con (.int 24), .con (.str [65, 65, 65, 65])], .tup [.con (.str [116, 104, 114, 101, 97, 100]), .con (.int 0), .con (.str [65, 65, 65])], .tup [.con (.str [116, 104, 114, 101, 97, 100]), .con (.int 0), .con (.str [65, 65, 65, 65, 65])], .tup [.con (.str [116, 104, 114, 101, 97, 100]), .con (.int 0), .con (.str [65, 65, 65, 97])], .tup [.con (.str [116, 104, 114, 101, 97, 100]), .con (.int 0), .tup [.con (.str [65]), .con (.str [66]), .con (.str [65]), .con (.str [66])]]]), .set 4 (.bin false .Add (.var 4) (.lst false [.tup [.con (.str [116, 104, 114, 101, 97, 100]), .con (.str [48]), .con (.str [65, 65, 65, 65])], .tup [.con (.str [116, 104, 114, 101, 97, 100]), .neg (.con (.int 1)), .con (.str [97, 97, 97, 97])], .tup [.con (.str [116, 104, 114, 101, 97, 100]), .con (.int 23), .con (.str [90, 90, 90, 90])], .tup [.con (.str [116, 104, 114, 101, 97, 100]), .con (.bl false), .con (.str [65, 65, 65, 65])]])), .set 5 (.lst false [.tup [.con (.str [112, 97, 99, 107]), .con (.int 0), .tup []], .tup [.con (.str [112, 97, 99, 107]), .con (.int 0), .tup [.con (.int 1), .con (.int 1)]], .tup [.con (.str [112, 97, 99, 107]), .con (.int 0), .tup [.con (.int 2), .con (.int 1)]], .tup [.con (.str [112, 97, 99, 107]), .con (.int 0), .lst false [.con (.int 1)]], .tup [.con (.str [112, 97, 99, 107]), .con (.int 0), .tup [.con (.int 24)]], .tup [.con (.str [112, 97, 99, 107]), .con (.int 24), .tup []]]), .set 5 (.bin false .Add (.var 5) (.lst false [.tup [.con (.str [112, 97, 99, 107]), .con (.int 0), .tup [.con (.bl true)]], .tup [.con (.str [112, 97, 99, 107]), .con (.int 0), .con (.int 1)], .tup [.con (.str [112, 97, 99, 107]), .con (.int 0), .tup [.con (.int 0), .con (.int 23)]], .tup [.con (.str [112, 97, 99, 107]), .bin false .Pow (.con (.int 10)) (.con (.int 50)), .tup [.con (.int 0)]], .tup [.con (.str [112, 97, 99, 107]), .con (.int 0), .tup [.con (.int 0), .neg (.con (.int 1))]]])), .set 6 (.lst false [.tup [.con (.str [114, 101, 112, 101, 97, 116]), .con (.int 1), .tup [.var 1]], .tup [.con (.str [114, 101, 112, 101, 97, 116]), .con (.int 41), .tup [.var 1]], .tup [.con (.str [114, 101, 112, 101, 97, 116]), .con (.int 2), .tup []], .tup [.con (.str [114, 101, 112, 101, 97, 116]), .con (.int 2), .lst false [.var 1]], .tup [.con (.str [114, 101, 112, 101, 97, 116]), .con (.bl true), .tup []]]), .set 6 (.bin false .Add (.var 6) (.lst false [.tup [.con (.str [114, 101, 112, 101, 97, 116]), .con (.int 1), .tup []], .tup [.con (.str [114, 101, 112, 101, 97, 116]), .con (.int 2), .tup [.con (.str [116, 104, 114, 111, 119])]], .tup [.con (.str [114, 101, 112, 101, 97, 116]), .con (.int 2), .tup [.var 1, .con .non]], .tup [.con (.str [114, 101, 112, 101, 97, 116]), .con (.int 40), .tup [.var 1]], .tup [.con (.str [114, 101, 112, 101, 97, 116]), .con (.int 2), .var 1]])), .ret (.call 19 [.var 0, .call 19 [.var 0, .lst false [.var 2, .var 3, .var 4, .var 5, .var 6]]])], true⟩
def n_30 : List Str := ["tape", "code", "path", "rest", "at", "inside", "around", "place", "k"]
def f_30 : Fn := ⟨2, 9, [.set 2 (.lst true []), .set 3 (.var 1), .wh (.truth (.con (.bl true))) [.set 5 (.lc false [8] (.one 8) (.rng1 (.fn false .len [.var 3])) (some (.and (.isi [.tuple] (.ix (.var 3) (.var 8))) (.and (.cmp .Eq (.fn false .len [.ix (.var 3) (.var 8)]) (.con (.int 3))) (.and (.isi [.tuple] (.ix (.ix (.var 3) (.var 8)) (.con (.int 2)))) (.cmp .Eq (.ix (.ix (.var 3) (.var 8)) (.con (.int 0))) (.con (.str [114, 101, 112, 101, 97, 116]))))))) (.var 8)), .ite (.or (.cmp .Eq (.fn false .len [.var 5]) (.con (.int 0))) (.cmp .Eq (.call 18 [.var 0, .con (.int 3)]) (.con (.int 0)))) [.brk] [], .expr (.meth .append (.var 2) [.tup [.var 3, .call 19 [.var 0, .var 5]]]), .set 3 (.ix (.ix (.ix (.ix (.var 2) (.neg (.con (.int 1)))) (.con (.int 0))) (.ix (.ix (.var 2) (.neg (.con (.int 1)))) (.con (.int 1)))) (.con (.int 2)))], .set 4 (.call 18 [.var 0, .bin false .Add (.fn false .len [.var 3]) (.con (.int 1))]), .set 3 (.bin false .Add (.bin false .Add (.cut false (.var 3) none (some (.var 4))) (.tup [.call 29 [.var 0]])) (.cut false (.var 3) (some (.bin false .Add (.var 4) (.call 18 [.var 0, .con (.int 2)]))) none)), .for (.tup [6, 7]) (.rev false (.var 2)) [.set 3 (.bin false .Add (.bin false .Add (.cut false (.var 6) none (some (.var 7))) (.tup [.bin false .Add (.cut false (.ix (.var 6) (.var 7)) none (some (.con (.int 2)))) (.tup [.var 3])])) (.cut false (.var 6) (some (.bin false .Add (.var 7) (.con (.int 1)))) none))], .ret (.var 3)], true⟩
def n_31 : List Str := ["thing", "due"]
def f_31 : Fn := ⟨1, 2, [.set 1 (.call 24 [.var 0]), .ite (.or (.not (.truth (.call 21 [.call 28 [.var 0], .ite (.cmp .Eq (.ix (.var 1) (.con (.int 0))) (.con (.str [116, 111, 108, 100]))) (.cut false (.var 1) none (some (.con (.int 2)))) (.var 1)]))) (.not (.truth (.call 21 [.call 14 [.var 0], .cmp .Eq (.ix (.var 1) (.con (.int 0))) (.con (.str [116, 111, 108, 100]))])))) [.ret (.con (.bl false))] [], .ite (.cmp .Eq (.ix (.var 1) (.con (.int 0))) (.con (.str [98, 97, 100]))) [.ret (.con (.bl true))] [], .ret (.and (.call 21 [.call 15 [.var 0], .ix (.var 1) (.con (.int 1))]) (.call 21 [.call 16 [.var 0], .ix (.var 1) (.con (.int 2))]))], true⟩
def n_32 : List Str := ["deep", "code", "lap"]
def f_32 : Fn := ⟨1, 3, [.set 1 (.tup [.tup [.con (.str [116, 104, 114, 111, 119])]]), .for (.one 2) (.rng1 (.var 0)) [.set 1 (.tup [.tup [.con (.str [116, 117, 114, 110]), .con (.int 0), .con (.str [70])], .tup [.con (.str [114, 101, 112, 101, 97, 116]), .con (.int 2), .var 1]])], .ret (.var 1)], true⟩
def n_33 : List Str := ["tape", "throw", "two", "rows", "thing", "due"]
def f_33 : Fn := ⟨1, 6, [.set 1 (.tup [.con (.str [116, 104, 114, 111, 119])]), .set 2 (.tup [.con (.str [114, 101, 112, 101, 97, 116]), .con (.int 2), .tup [.var 1, .tup [.con (.str [114, 101, 112, 101, 97, 116]), .con (.int 3), .tup [.var 1, .tup [.con (.str [116, 117, 114, 110]), .con (.int 24), .con (.str [88])]]]]]), .set 3 (.lst true [.tup [.tup [], .tup [.con (.str [116, 111, 108, 100]), .con (.int 0)]], .tup [.tup [.var 1, .tup [.con (.str [114, 101, 112, 101, 97, 116]), .con (.int 2), .tup [.var 1, .var 1]]], .tup [.con (.str [116, 111, 108, 100]), .con (.int 4)]], .tup [.lst false [.var 1], .tup [.con (.str [98, 97, 100]), .tup [], .con (.str [115, 104, 97, 112, 101])]], .tup [.tup [.var 1, .var 2], .tup [.con (.str [98, 97, 100]), .tup [.con (.int 1), .con (.int 1), .con (.int 1)], .con (.str [112, 97, 99, 107])]]]), .set 3 (.bin true .Add (.var 3) (.lst false [.tup [.tup [.tup [.con (.str [114, 101, 112, 101, 97, 116]), .con (.int 1), .tup [.con .non]], .con .non], .tup [.con (.str [98, 97, 100]), .tup [.con (.int 0)], .con (.str [109, 97, 110, 121])]], .tup [.tup [.var 1, .tup [.con (.str [114, 101, 112, 101, 97, 116]), .con (.int 2), .tup [.var 1, .con .non]], .con .non], .tup [.con (.str [98, 97, 100]), .tup [.con (.int 1), .con (.int 1)], .con (.str [119, 111, 114, 100])]]])), .set 3 (.bin true .Add (.var 3) (.lst false [.tup [.tup [.tup [.con (.str [116, 104, 114, 101, 97, 100]), .con (.int 24), .con (.str [97])]], .tup [.con (.str [98, 97, 100]), .tup [.con (.int 0)], .con (.str [116, 97, 98, 108, 101, 116])]]])), .set 3 (.bin true .Add (.var 3) (.lst false [.tup [.tup [.tup [.con (.str [116, 104, 114, 101, 97, 100]), .con (.int 0), .con (.str [97])]], .tup [.con (.str [98, 97, 100]), .tup [.con (.int 0)], .con (.str [99, 111, 108, 111, 117, 114, 115])]], .tup [.tup [.tup [.con (.str [112, 97, 99, 107]), .con (.int 0), .tup [.con (.int 1), .con (.int 0)]]], .tup [.con (.str [98, 97, 100]), .tup [.con (.int 0)], .con (.str [116, 97, 98, 108, 101, 116, 115])]]])), .set 3 (.bin true .Add (.var 3) (.lst false [.tup [.tup [.tup [.con (.str [116, 117, 114, 110]), .con (.int 0), .con (.str [88])]], .tup [.con (.str [98, 97, 100]), .tup [.con (.int 0)], .con (.str [116, 117, 114, 110])]], .tup [.tup [.tup [.con (.str [114, 101, 112, 101, 97, 116]), .con (.int 2), .tup []]], .tup [.con (.str [98, 97, 100]), .tup [.con (.int 0)], .con (.str [101, 109, 112, 116, 121])]]])), .expr (.meth .append (.var 3) [.tup [.tup [.tup [.con (.str [114, 101, 112, 101, 97, 116]), .con (.int 2), .lst false [.var 1]]], .tup [.con (.str [98, 97, 100]), .tup [.con (.int 0)], .con (.str [115, 104, 97, 112, 101])]]]), .for (.tup [4, 5]) (.cut false (.call 20 [.var 0, .var 3]) none (some (.con (.int 6)))) [.ite (.not (.truth (.call 21 [.call 28 [.var 4], .var 5]))) [.ret (.con (.bl false))] []], .ret (.and (.call 21 [.call 16 [.tup [.tup [.con (.str [114, 101, 112, 101, 97, 116]), .con (.int 2), .tup [.var 1, .tup [.con (.str [114, 101, 112, 101, 97, 116]), .con (.int 2), .tup [.var 1]]]]]], .con (.int 2)]) (.and (.call 21 [.call 16 [.tup [.var 1]], .con (.int 0)]) (.call 21 [.callk 14 1 [0] [.tup [.var 1]], .con (.bl true)])))], true⟩
def n_34 : List Str := ["script", "tape", "lap", "code", "bent", "many", "inner", "thing"]
def f_34 : Fn := ⟨1, 8, [.set 1 (.call 17 [.var 0]), .ite (.not (.truth (.call 33 [.var 1]))) [.ret (.con (.bl false))] [], .for (.one 2) (.rng1 (.con (.int 3))) [.set 3 (.call 27 [.var 1, .con (.int 7)]), .set 4 (.call 30 [.var 1, .var 3]), .ite (.or (.not (.truth (.call 31 [.var 3]))) (.or (.not (.truth (.call 31 [.var 4]))) (.not (.truth (.call 31 [.call 30 [.var 1, .var 4]]))))) [.ret (.con (.bl false))] []], .ite (.not (.truth (.call 31 [.call 19 [.var 1, .lst false [.con .non, .fn false .list [.var 3], .con (.str []), .con (.int 0), .con (.str [116, 104, 114, 111, 119]), .tup [.con (.str [116, 104, 114, 111, 119])], .tup [.var 3], .con (.bl true)]]]))) [.ret (.con (.bl false))] [], .ite (.cmp .Eq (.call 18 [.var 1, .con (.int 11)]) (.con (.int 4))) [.set 5 (.bin false .Add (.con (.int 1990)) (.call 18 [.var 1, .con (.int 20)])), .set 6 (.bin false .Mult (.tup [.tup [.con (.str [116, 104, 114, 111, 119])]]) (.call 18 [.var 1, .con (.int 50)])), .for (.one 7) (.lst false [.call 32 [.con (.int 20)], .call 32 [.con (.int 21)], .bin false .Mult (.tup [.tup [.con (.str [116, 104, 114, 111, 119])]]) (.con (.int 2000)), .bin false .Add (.bin false .Mult (.tup [.tup [.con (.str [116, 104, 114, 111, 119])]]) (.bin false .Sub (.bin false .Sub (.var 5) (.fn false .len [.var 6])) (.con (.int 1)))) (.tup [.tup [.con (.str [114, 101, 112, 101, 97, 116]), .con (.int 2), .bin false .Add (.var 6) (.tup [.tup [.con (.str [116, 117, 114, 110]), .con (.int 3), .con (.str [66])]])]])]) [.ite (.not (.truth (.call 31 [.var 7]))) [.ret (.con (.bl false))] []]] [], .ret (.con (.bl true))], true⟩
def pg : Pg := ⟨[f_0, f_1, f_2, f_3, f_4, f_5, f_6, f_7, f_8, f_9, f_10, f_11, f_12, f_13, f_14, f_15, f_16, f_17, f_18, f_19, f_20, f_21, f_22, f_23, f_24, f_25, f_26, f_27, f_28, f_29, f_30, f_31, f_32, f_33, f_34], [⟨["path", "word"], [0, 2, 1]⟩, ⟨[], [1]⟩, ⟨[], [2, 1]⟩, ⟨[], [3, 1]⟩, ⟨[], [4, 1]⟩], 1, []⟩
def tb : Tb := { fns := ((["is_whole", "is_number", "is_word", "are_numbers", "only_signs", "are_colours", "look_at_word", "is_low", "look_at_thread", "look_at_pack", "look_at_repeat", "look_at", "gone_through", "check_code", "is_code", "code_size", "code_depth", "_law_tape", "_law_pick", "_law_one", "_law_mixed", "_law_same", "_law_whole", "_law_word"] : List Str) ++ (["_law_checked", "_law_colours", "_law_instruction", "_law_code", "_law_told", "_law_odd", "_law_bent", "_law_held", "_law_nested", "_law_by_hand", "law"] : List Str)), xcs := ["BadCode", "LoomError", "DataError", "CallError", "RunError"], cons := [("MOST_TABLETS", (.int 24)), ("MOST_REPEAT", (.int 40)), ("MOST_INSTRUCTIONS", (.int 2000)), ("MOST_REPEATS", (.int 20)), ("COLOURS", (.str [65, 66, 67, 68, 69, 70, 71, 72, 73, 74, 75, 76, 77, 78, 79, 80, 81, 82, 83, 84, 85, 86, 87, 88, 89, 90]))], bls := ["abs", "bool", "int", "isinstance", "len", "list", "max", "min", "range", "sorted", "str", "tuple"], flds := ["path", "word"], ini := [0], qns := [], kbs := [(14, ["thing"], [0])], tabs := [("LENGTHS", [([116, 104, 114, 101, 97, 100], (.int 3)), ([112, 97, 99, 107], (.int 3)), ([116, 117, 114, 110], (.int 3)), ([116, 104, 114, 111, 119], (.int 1)), ([114, 101, 112, 101, 97, 116], (.int 3))])] }
def top (i : Nat) : Stmt := PySem.Challenge.pw_turnedtogether_k23_code_checked.main.body.getD i (.Pass ⟨0, 0, 0, 0⟩)
abbrev s_0 : Stmt := top 11
abbrev s_1 : Stmt := top 12
abbrev s_2 : Stmt := top 13
abbrev s_3 : Stmt := top 14
abbrev s_4 : Stmt := top 15
abbrev s_5 : Stmt := top 18
abbrev s_6 : Stmt := top 21
abbrev s_7 : Stmt := top 22
abbrev s_8 : Stmt := top 23
abbrev s_9 : Stmt := top 24
abbrev s_10 : Stmt := top 25
abbrev s_11 : Stmt := top 26
abbrev s_12 : Stmt := top 27
abbrev s_13 : Stmt := top 28
abbrev s_14 : Stmt := top 29
abbrev s_15 : Stmt := top 30
abbrev s_16 : Stmt := top 31
abbrev s_17 : Stmt := top 33
abbrev s_18 : Stmt := top 34
abbrev s_19 : Stmt := top 35
abbrev s_20 : Stmt := top 36
abbrev s_21 : Stmt := top 37
abbrev s_22 : Stmt := top 38
abbrev s_23 : Stmt := top 39
abbrev s_24 : Stmt := top 40
abbrev s_25 : Stmt := top 41
abbrev s_26 : Stmt := top 42
abbrev s_27 : Stmt := top 43
abbrev s_28 : Stmt := top 44
abbrev s_29 : Stmt := top 45
abbrev s_30 : Stmt := top 46
abbrev s_31 : Stmt := top 47
abbrev s_32 : Stmt := top 48
abbrev s_33 : Stmt := top 49
abbrev s_34 : Stmt := top 50
abbrev i_0 : Stmt := inClass (top 9) 0
theorem chk_0 : chkSs tb 200 ⟨n_0, defScope s_0, defScope s_0, none, true⟩ (defBody s_0) f_0.body = true := by decide +kernel
theorem scp_0 : fscC n_0 ["thing"] (defScope s_0) = true := by decide +kernel
theorem chk_1 : chkSs tb 200 ⟨n_1, defScope s_1, defScope s_1, none, true⟩ (defBody s_1) f_1.body = true := by decide +kernel
theorem scp_1 : fscC n_1 ["thing"] (defScope s_1) = true := by decide +kernel
theorem chk_2 : chkSs tb 200 ⟨n_2, defScope s_2, defScope s_2, none, true⟩ (defBody s_2) f_2.body = true := by decide +kernel
theorem scp_2 : fscC n_2 ["thing", "words"] (defScope s_2) = true := by decide +kernel
theorem chk_3 : chkSs tb 200 ⟨n_3, defScope s_3, defScope s_3, none, true⟩ (defBody s_3) f_3.body = true := by decide +kernel
theorem scp_3 : fscC n_3 ["thing", "most"] (defScope s_3) = true := by decide +kernel
theorem chk_4 : chkSs tb 200 ⟨n_4, defScope s_4, defScope s_4, none, true⟩ (defBody s_4) f_4.body = true := by decide +kernel
theorem scp_4 : fscC n_4 ["word", "signs"] (defScope s_4) = true := by decide +kernel
theorem chk_5 : chkSs tb 200 ⟨n_5, defScope s_5, defScope s_5, none, true⟩ (defBody s_5) f_5.body = true := by decide +kernel
theorem scp_5 : fscC n_5 ["thing"] (defScope s_5) = true := by decide +kernel
theorem chk_6 : chkSs tb 200 ⟨n_6, defScope s_6, defScope s_6, none, true⟩ (defBody s_6) f_6.body = true := by decide +kernel
theorem scp_6 : fscC n_6 ["thing", "path"] (defScope s_6) = true := by decide +kernel
theorem chk_7 : chkSs tb 200 ⟨n_7, defScope s_7, defScope s_7, none, true⟩ (defBody s_7) f_7.body = true := by decide +kernel
theorem scp_7 : fscC n_7 ["thing"] (defScope s_7) = true := by decide +kernel
theorem chk_8 : chkSs tb 200 ⟨n_8, defScope s_8, defScope s_8, none, true⟩ (defBody s_8) f_8.body = true := by decide +kernel
theorem scp_8 : fscC n_8 ["thing", "path"] (defScope s_8) = true := by decide +kernel
theorem chk_9 : chkSs tb 200 ⟨n_9, defScope s_9, defScope s_9, none, true⟩ (defBody s_9) f_9.body = true := by decide +kernel
theorem scp_9 : fscC n_9 ["thing", "path"] (defScope s_9) = true := by decide +kernel
theorem chk_10 : chkSs tb 200 ⟨n_10, defScope s_10, defScope s_10, none, true⟩ (defBody s_10) f_10.body = true := by decide +kernel
theorem scp_10 : fscC n_10 ["thing", "path"] (defScope s_10) = true := by decide +kernel
theorem chk_11 : chkSs tb 200 ⟨n_11, defScope s_11, defScope s_11, none, true⟩ (defBody s_11) f_11.body = true := by decide +kernel
theorem scp_11 : fscC n_11 ["thing", "path"] (defScope s_11) = true := by decide +kernel
theorem chk_12 : chkSs tb 200 ⟨n_12, defScope s_12, defScope s_12, none, true⟩ (defBody s_12) f_12.body = true := by decide +kernel
theorem scp_12 : fscC n_12 ["code", "path"] (defScope s_12) = true := by decide +kernel
theorem chk_13 : chkSs tb 200 ⟨n_13, defScope s_13, defScope s_13, none, true⟩ (defBody s_13) f_13.body = true := by decide +kernel
theorem scp_13 : fscC n_13 ["thing"] (defScope s_13) = true := by decide +kernel
theorem chk_14 : chkSs tb 200 ⟨n_14, defScope s_14, defScope s_14, none, true⟩ (defBody s_14) f_14.body = true := by decide +kernel
theorem scp_14 : fscC n_14 ["thing"] (defScope s_14) = true := by decide +kernel
theorem chk_15 : chkSs tb 200 ⟨n_15, defScope s_15, defScope s_15, none, true⟩ (defBody s_15) f_15.body = true := by decide +kernel
theorem scp_15 : fscC n_15 ["code"] (defScope s_15) = true := by decide +kernel
theorem chk_16 : chkSs tb 200 ⟨n_16, defScope s_16, defScope s_16, none, true⟩ (defBody s_16) f_16.body = true := by decide +kernel
theorem scp_16 : fscC n_16 ["code"] (defScope s_16) = true := by decide +kernel
theorem chk_17 : chkSs tb 200 ⟨n_17, defScope s_17, defScope s_17, none, true⟩ (defBody s_17) f_17.body = true := by decide +kernel
theorem scp_17 : fscC n_17 ["script"] (defScope s_17) = true := by decide +kernel
theorem chk_18 : chkSs tb 200 ⟨n_18, defScope s_18, defScope s_18, none, true⟩ (defBody s_18) f_18.body = true := by decide +kernel
theorem scp_18 : fscC n_18 ["tape", "many"] (defScope s_18) = true := by decide +kernel
theorem chk_19 : chkSs tb 200 ⟨n_19, defScope s_19, defScope s_19, none, true⟩ (defBody s_19) f_19.body = true := by decide +kernel
theorem scp_19 : fscC n_19 ["tape", "things"] (defScope s_19) = true := by decide +kernel
theorem chk_20 : chkSs tb 200 ⟨n_20, defScope s_20, defScope s_20, none, true⟩ (defBody s_20) f_20.body = true := by decide +kernel
theorem scp_20 : fscC n_20 ["tape", "things"] (defScope s_20) = true := by decide +kernel
theorem chk_21 : chkSs tb 200 ⟨n_21, defScope s_21, defScope s_21, none, true⟩ (defBody s_21) f_21.body = true := by decide +kernel
theorem scp_21 : fscC n_21 ["told", "due"] (defScope s_21) = true := by decide +kernel
theorem chk_22 : chkSs tb 200 ⟨n_22, defScope s_22, defScope s_22, none, true⟩ (defBody s_22) f_22.body = true := by decide +kernel
theorem scp_22 : fscC n_22 ["thing", "low", "high"] (defScope s_22) = true := by decide +kernel
theorem chk_23 : chkSs tb 200 ⟨n_23, defScope s_23, defScope s_23, none, true⟩ (defBody s_23) f_23.body = true := by decide +kernel
theorem scp_23 : fscC n_23 ["one"] (defScope s_23) = true := by decide +kernel
theorem chk_24 : chkSs tb 200 ⟨n_24, defScope s_24, defScope s_24, none, true⟩ (defBody s_24) f_24.body = true := by decide +kernel
theorem scp_24 : fscC n_24 ["thing"] (defScope s_24) = true := by decide +kernel
theorem chk_25 : chkSs tb 200 ⟨n_25, defScope s_25, defScope s_25, none, true⟩ (defBody s_25) f_25.body = true := by decide +kernel
theorem scp_25 : fscC n_25 ["tape"] (defScope s_25) = true := by decide +kernel
theorem chk_26 : chkSs tb 200 ⟨n_26, defScope s_26, defScope s_26, none, true⟩ (defBody s_26) f_26.body = true := by decide +kernel
theorem scp_26 : fscC n_26 ["tape"] (defScope s_26) = true := by decide +kernel
theorem chk_27 : chkSs tb 200 ⟨n_27, defScope s_27, defScope s_27, none, true⟩ (defBody s_27) f_27.body = true := by decide +kernel
theorem scp_27 : fscC n_27 ["tape", "many"] (defScope s_27) = true := by decide +kernel
theorem chk_28 : chkSs tb 200 ⟨n_28, defScope s_28, defScope s_28, none, true⟩ (defBody s_28) f_28.body = true := by decide +kernel
theorem scp_28 : fscC n_28 ["thing"] (defScope s_28) = true := by decide +kernel
theorem chk_29 : chkSs tb 200 ⟨n_29, defScope s_29, defScope s_29, none, true⟩ (defBody s_29) f_29.body = true := by decide +kernel
theorem scp_29 : fscC n_29 ["tape"] (defScope s_29) = true := by decide +kernel
theorem chk_30 : chkSs tb 200 ⟨n_30, defScope s_30, defScope s_30, none, true⟩ (defBody s_30) f_30.body = true := by decide +kernel
theorem scp_30 : fscC n_30 ["tape", "code"] (defScope s_30) = true := by decide +kernel
theorem chk_31 : chkSs tb 200 ⟨n_31, defScope s_31, defScope s_31, none, true⟩ (defBody s_31) f_31.body = true := by decide +kernel
theorem scp_31 : fscC n_31 ["thing"] (defScope s_31) = true := by decide +kernel
theorem chk_32 : chkSs tb 200 ⟨n_32, defScope s_32, defScope s_32, none, true⟩ (defBody s_32) f_32.body = true := by decide +kernel
theorem scp_32 : fscC n_32 ["deep"] (defScope s_32) = true := by decide +kernel
theorem chk_33 : chkSs tb 200 ⟨n_33, defScope s_33, defScope s_33, none, true⟩ (defBody s_33) f_33.body = true := by decide +kernel
theorem scp_33 : fscC n_33 ["tape"] (defScope s_33) = true := by decide +kernel
theorem chk_34 : chkSs tb 200 ⟨n_34, defScope s_34, defScope s_34, none, true⟩ (defBody s_34) f_34.body = true := by decide +kernel
theorem scp_34 : fscC n_34 ["script"] (defScope s_34) = true := by decide +kernel
theorem ixc_0 : initC ["self", "path", "word"] (defScope i_0) 1 ["path", "word"] (defBody i_0) = true := by decide +kernel
theorem isc_0 : fscC ["self", "path", "word"] ["self", "path", "word"] (defScope i_0) = true := by decide +kernel
end LK
set_option Elab.async false
set_option linter.all false
set_option maxRecDepth 1000000
set_option maxHeartbeats 4000000
namespace LK
open LX
noncomputable abbrev R : LX.Sys := run pg
/-- the tape: the great cells, the stirred number -/
def tp (t : List Int × Int) (N : MH) : MH := .lst (t.1.map .int) :: .lst [.int t.2, .ref 0] :: N
def ok (t : List Int × Int) : Prop := (∀ c ∈ t.1, 0 ≤ c) ∧ 0 ≤ t.2
theorem tp_cl {t : List Int × Int} {N : MH} (h : Nr N) : Cl (tp t N) := by
  refine List.all_eq_true.mpr fun o ho => ?_
  rcases List.mem_cons.mp ho with rfl | ho
  · exact unds_of (ds := t.1.map .int) fun d hd => by obtain ⟨i, _, rfl⟩ := List.mem_map.mp hd; rfl
  · rcases List.mem_cons.mp ho with rfl | ho
    · show (true && (decide (0 < (tp t N).length) && true)) = true
      simp [tp]
    · exact mo_mono (Nat.zero_le _) (h o ho)
theorem tp_end {t t' : List Int × Int} {N X : MH} {x : D} (hN : Nr N) (hx : D.und 0 x = true) : endF true (tp t N).length (.rt x (tp t' (N ++ X))) = .ok x (tp t' N) :=
  endF_vC (M := tp t' N) hx (by simp [tp]) (tp_cl hN)
theorem tp_end0 {t t' : List Int × Int} {N : MH} {x : D} (hN : Nr N) (hx : D.und 0 x = true) : endF true (tp t N).length (.rt x (tp t' N)) = .ok x (tp t' N) :=
  endF_vC (M := tp t' N) hx (by simp [tp]) (tp_cl hN)
theorem tp_at1 {t : List Int × Int} {N : MH} {a : List D} : lstAt (tp t (N ++ [.lst a])) (N.length + 2) = some a := by
  unfold lstAt tp
  simp
theorem tp_set1 {t : List Int × Int} {N : MH} {a a' : List D} : (tp t (N ++ [.lst a])).set (N.length + 2) (.lst a') = tp t (N ++ [.lst a']) := by
  unfold tp
  simp
theorem tp_at {t : List Int × Int} {N : MH} {a b : List D} : lstAt (tp t (N ++ [.lst a, .lst b])) (N.length + 2) = some a ∧ lstAt (tp t (N ++ [.lst a, .lst b])) (N.length + 3) = some b := by
  unfold lstAt tp
  constructor <;> simp
theorem tp_set {t : List Int × Int} {N : MH} {a b a' : List D} : (tp t (N ++ [.lst a, .lst b])).set (N.length + 2) (.lst a') = tp t (N ++ [.lst a', .lst b]) := by
  unfold tp
  simp
theorem tp_set3 {t : List Int × Int} {N : MH} {a b a' : List D} : (tp t (N ++ [.lst a, .lst b])).set (N.length + 3) (.lst a') = tp t (N ++ [.lst a, .lst a']) := by
  unfold tp
  simp
theorem pick {t : List Int × Int} {many : Int} {N : MH} {d : Nat} (h : ok t) (hN : Nr N) (hm : 0 < many) (hm2 : many < 1073741824) : ∃ t' v, ok t' ∧ ((v : Nat) : Int) < many ∧ R.f (d + 1) 18 [.ref 1, .int many] (tp t N) = .ok (.int v) (tp t' N) := by
  obtain ⟨cs, s⟩ := t
  obtain ⟨hc, hs⟩ := h
  have h0 : many ≠ 0 := by omega
  have hn : many.natAbs < 1073741824 := by omega
  have fin : ∀ y : Int, ∃ v : Nat, (v : Int) < many ∧ y.fmod many = v := fun y => by
    have h1 := Int.fmod_nonneg_of_pos y hm
    have h2 := Int.fmod_lt_of_pos y hm
    exact ⟨(y.fmod many).toNat, by omega, by omega⟩
  rw [call_eq (t := f_18) rfl rfl]
  rcases List.eq_nil_or_concat cs with rfl | ⟨ys, y, rfl⟩
  · obtain ⟨v, hv, e⟩ := fin (((s * 39373 + 43).fmod 2147483647).fdiv 64)
    refine ⟨([], (s * 39373 + 43).fmod 2147483647), v, ⟨hc, Int.fmod_nonneg_of_pos _ (by omega)⟩, hv, ?_⟩
    rw [← e]
    simp -implicitDefEqProofs [f_18, tp, startE, binD, fnD, ixD, putD, cmpD, lstAt, L2.atI, L2.ixN, seqOf, smallI, h0]
    exact tp_end0 (t := ([], s)) (t' := ([], (s * 39373 + 43).fmod 2147483647)) hN rfl
  · rw [List.concat_eq_append] at hc ⊢
    have hy : 0 ≤ y := hc y (by simp)
    have hys : ∀ c ∈ ys, 0 ≤ c := fun c q => hc c (by simp [q])
    obtain ⟨v, hv, e⟩ := fin y
    by_cases hl : y < many
    · refine ⟨(ys, s), v, ⟨hys, hs⟩, hv, ?_⟩
      rw [← e]
      simp -implicitDefEqProofs [f_18, tp, startE, lstAt, seqOf, atI_last, ixN_last, atI_0, atI_1, h0, hl, mod_int]
      exact tp_end0 (t := (ys, s)) (t' := (ys, s)) hN rfl
    · refine ⟨(ys ++ [y.fdiv many], s), v, ⟨fun c q => ?_, hs⟩, hv, ?_⟩
      · rcases List.mem_append.mp q with q | q
        · exact hys c q
        · rw [List.mem_singleton.mp q]
          exact Int.fdiv_nonneg hy (by omega)
      · rw [← e]
        simp -implicitDefEqProofs [f_18, tp, startE, lstAt, seqOf, atI_last, ixN_last, atI_0, atI_1, h0, hl, mod_int, div_int, hn]
        have z := tp_end0 (t := (ys, s)) (t' := (ys ++ [y.fdiv many], s)) (N := N) (x := .int (y.fmod many)) hN rfl
        simpa [tp] using z
theorem one {t : List Int × Int} {xs : List D} {N : MH} {d : Nat} (h : ok t) (hN : Nr N) (hx : xs ≠ []) (hz : xs.length < 1000000) (hu : ∀ x ∈ xs, D.und 0 x = true) : ∃ t' x, ok t' ∧ x ∈ xs ∧ R.f (d + 2) 19 [.ref 1, .tl xs] (tp t N) = .ok x (tp t' N) := by
  have hp : 0 < xs.length := List.length_pos_iff.mpr hx
  obtain ⟨t', v, h1, h2, h3⟩ := pick (many := (xs.length : Int)) (N := N) (d := d) h hN (by omega) (by omega)
  have hv : v < xs.length := by omega
  refine ⟨t', xs[v], h1, List.getElem_mem hv, ?_⟩
  rw [call_eq (t := f_19) rfl rfl]
  simp -implicitDefEqProofs [f_19, startE, h3, atI_at, hv]
  exact tp_end0 hN (hu _ (List.getElem_mem hv))
theorem oneS {t : List Int × Int} {s : List Nat} {N : MH} {d : Nat} (h : ok t) (hN : Nr N) (hx : s ≠ []) (hz : s.length < 1000000) : ∃ t' x, ok t' ∧ x ∈ s ∧ R.f (d + 2) 19 [.ref 1, .str s] (tp t N) = .ok (.str [x]) (tp t' N) := by
  have hp : 0 < s.length := List.length_pos_iff.mpr hx
  obtain ⟨t', v, h1, h2, h3⟩ := pick (many := (s.length : Int)) (N := N) (d := d) h hN (by omega) (by omega)
  have hv : v < s.length := by omega
  refine ⟨t', s[v], h1, List.getElem_mem hv, ?_⟩
  rw [call_eq (t := f_19) rfl rfl]
  simp -implicitDefEqProofs [f_19, startE, h3, atI_at, hv]
  exact tp_end0 hN rfl
/-! ### _law_mixed -/
theorem mixed_ok {t : List Int × Int} {N : MH} {d : Nat} {xs : List D} (P : D → Prop) (h : ok t) (hN : Nr N) (hu : ∀ x, P x → D.und 0 x = true) (hx : ∀ x ∈ xs, P x) (hz : xs.length ≤ 1000) : ∃ t' l, ok t' ∧ l.length = xs.length ∧ (∀ x ∈ l, P x) ∧ R.f (d + 2) 20 [.ref 1, .tl xs] (tp t N) = .ok (.tl l) (tp t' N) := by
  have hlim : lim = 16777216 := rfl
  have us : ∀ l : List D, (∀ x ∈ l, P x) → D.undAll 0 l = true := fun l hl => unds_of fun x hx => hu x (hl x hx)
  obtain ⟨ρ2, M2, e1, t', rest, told, o, c1, c2, c3, c4, c5, rfl, rfl⟩ := for_nx (P := pg) (c := ⟨d + 1, none⟩) (g := .one 4) (all := rngL 0 xs.length) (b := [.expr (.meth .append (.var 3) [.meth .pop1 (.var 2) [.call 18 [.var 0, .fn false .len [.var 2]]]])])
    (fun i ρ M' => ∃ t rest told o, ok t ∧ rest.length + i = xs.length ∧ told.length = i ∧ (∀ x ∈ rest, P x) ∧ (∀ x ∈ told, P x) ∧ M' = tp t (N ++ [.lst rest, .lst told]) ∧ ρ = [some (.ref 1), some (.tl xs), some (.ref (N.length + 2)), some (.ref (N.length + 3)), o]) (l := rngL 0 xs.length) (s := 0) (ρ := [some (.ref 1), some (.tl xs), some (.ref (N.length + 2)), some (.ref (N.length + 3)), none]) (M := tp t (N ++ [.lst xs, .lst []])) (by
    rintro i x ρ M' hi ⟨t, rest, told, o, c1, c2, c3, c4, c5, rfl, rfl⟩
    obtain ⟨hi, rfl⟩ := rngL_get hi
    have hr : 0 < rest.length := by omega
    obtain ⟨t1, v, h1, h2, h3⟩ := pick (N := N ++ [.lst rest, .lst told]) (d := d) c1 (hN.app (.cons (us _ c4) (.cons (us _ c5) .nil))) (many := (rest.length : Int)) (by omega) (by omega)
    have hv : v < rest.length := by omega
    have gv : rest[v]? = some rest[v] := List.getElem?_eq_getElem hv
    have pp := pop1_ref (M := tp t1 (N ++ [.lst rest, .lst told])) (i := v) tp_at.1 gv (by rw [hlim]; omega)
    rw [tp_set] at pp
    have hl : told.length < 16777216 := by omega
    refine ⟨_, [some (.ref 1), some (.tl xs), some (.ref (N.length + 2)), some (.ref (N.length + 3)), some (.int (i : Nat))], tp t1 (N ++ [.lst (rest.eraseIdx v), .lst (told ++ [rest[v]])]), rfl, .inl ?_, t1, rest.eraseIdx v, told ++ [rest[v]], _, h1, ?_, ?_, ?_, ?_, rfl, rfl⟩
    · simp -implicitDefEqProofs [tp_at, h3, pp, tp_set3, lim, hl]
    · rw [List.length_eraseIdx_of_lt hv]; omega
    · simp; omega
    · exact fun x hx => c4 x (List.mem_of_mem_eraseIdx hx)
    · intro x hx
      rcases List.mem_append.mp hx with hx | hx
      · exact c5 x hx
      · rw [List.mem_singleton.mp hx]
        exact c4 _ (List.getElem_mem hv)) ⟨t, xs, [], none, h, by simp, rfl, hx, fun x hx => (by cases hx), rfl, rfl⟩
  rw [rngL_len] at c2 c3
  have hr0 : rest = [] := List.length_eq_zero_iff.mp (by omega)
  subst hr0
  refine ⟨t', told, c1, by omega, c5, ?_⟩
  rw [call_eq (t := f_20) rfl rfl]
  have rg := rng1_nat (n := xs.length) (by rw [hlim]; omega)
  have l1 : (tp t N).length = N.length + 2 := by simp [tp]
  have l2 : tp t N ++ [.lst xs, .lst []] = tp t (N ++ [.lst xs, .lst []]) := rfl
  have e : endF true (tp t' N).length (.rt (.ref (N.length + 3)) (tp t' (N ++ [.lst [], .lst told]))) = .ok (.tl told) (tp t' N) := endF_tlC (by simp [tp]) tp_at.2 (us _ c5) (by simp [tp]) (tp_cl hN)
  have l3 : (tp t' N).length = N.length + 2 := by simp [tp]
  rw [l3] at e
  simp -implicitDefEqProofs [f_20, startE, rg, l1, l2]
  rw [e1]
  simp
  exact e
/-! ### _law_colours -/
theorem colours_ok {t : List Int × Int} {N : MH} {d : Nat} (h : ok t) (hN : Nr N) : ∃ t' s, ok t' ∧ R.f (d + 3) 25 [.ref 1] (tp t N) = .ok (.str s) (tp t' N) := by
  obtain ⟨r, M', e1, t', l, c1, c2, rfl, rfl⟩ := lc_nx (P := pg) (c := ⟨d + 2, none⟩) (g := .one 1) (all := rngL 0 4) (e := .call 19 [.var 0, .con (.str [65, 66, 90, 75, 65, 66, 65, 66])]) (ρ := [some (.ref 1), none])
    (fun i acc M' => ∃ t l, ok t ∧ l.length = i ∧ acc = chs l ∧ M' = tp t N) (l := rngL 0 4) (acc := []) (s := 0) (M := tp t N) (by
    rintro i x acc M' hi ⟨t, l, c1, c2, rfl, rfl⟩
    obtain ⟨t1, y, h1, h2, h3⟩ := oneS (s := [65, 66, 90, 75, 65, 66, 65, 66]) (N := N) (d := d) c1 hN (by simp) (by simp)
    exact ⟨_, .str [y], _, rfl, by simp -implicitDefEqProofs [h3], t1, l ++ [y], h1, by simp; omega, by simp [chs], rfl⟩) ⟨t, [], h, rfl, rfl, rfl⟩ (by decide)
  refine ⟨t', l, c1, ?_⟩
  rw [call_eq (t := f_25) rfl rfl]
  have rg := rng1_nat (n := 4) (by decide)
  have hl : l.length ≤ lim := by rw [c2]; decide
  simp at rg
  simp -implicitDefEqProofs [f_25, startE, rg, wipeE]
  rw [e1]
  simp [join_tl hl]
  exact tp_end0 hN rfl
end LK

set_option Elab.async false
set_option linter.all false
set_option maxRecDepth 1000000
set_option maxHeartbeats 4000000
namespace LK
open LX
/-! ### _law_same(x, x) -/
def pr (x : D) : D := .tup [x, x]
def t21 : E := (.cmp .Gt (.fn false .len [.var 2]) (.con (.int 0)))
def b21 : List S := [.unp [3, 4] (.meth .pop0 (.var 2) []), .ite (.or (.cmp .Is (.var 3) (.con .non)) (.cmp .Is (.var 4) (.con .non))) [.ite (.or (.cmp .IsNot (.var 3) (.con .non)) (.cmp .IsNot (.var 4) (.con .non))) [.ret (.con (.bl false))] []] [.ite (.isi [.tuple, .list] (.var 4)) [.ite (.or (.cmp .NotEq (.isi [.tuple] (.var 3)) (.isi [.tuple] (.var 4))) (.or (.cmp .NotEq (.isi [.list] (.var 3)) (.isi [.list] (.var 4))) (.cmp .NotEq (.fn false .len [.var 3]) (.fn false .len [.var 4])))) [.ret (.con (.bl false))] [], .for (.one 5) (.rng1 (.fn false .len [.var 4])) [.expr (.meth .append (.var 2) [.tup [.ix (.var 3) (.var 5), .ix (.var 4) (.var 5)]])]] [.ite (.or (.cmp .NotEq (.isi [.bool] (.var 3)) (.isi [.bool] (.var 4))) (.cmp .NotEq (.isi [.str] (.var 3)) (.isi [.str] (.var 4)))) [.ret (.con (.bl false))] [.ite (.or (.not (.isi [.int, .str] (.var 3))) (.cmp .NotEq (.var 3) (.var 4))) [.ret (.con (.bl false))] []]]]]
theorem same_step {c : Cf} {M : MH} {u v : Option D} (k : Nat) (ρ : LX.Env) (M' : MH) (h : ∃ xs o1 o2 o3, D.pls xs = true ∧ k = D.szs xs ∧ k ≤ lim ∧ M' = M ++ [.lst (xs.map pr)] ∧ ρ = [u, v, some (.ref M.length), o1, o2, o3]) :
    R.e c t21 ρ M' = .ok (.bl false) M' ∨ (R.e c t21 ρ M' = .ok (.bl true) M' ∧ ∃ ρ2 M2 k2, (R.ss c b21 ρ M' = .nx ρ2 M2 ∨ R.ss c b21 ρ M' = .ct ρ2 M2) ∧ k2 < k ∧ ∃ xs o1 o2 o3, D.pls xs = true ∧ k2 = D.szs xs ∧ k2 ≤ lim ∧ M2 = M ++ [.lst (xs.map pr)] ∧ ρ2 = [u, v, some (.ref M.length), o1, o2, o3]) := by
  obtain ⟨xs, o1, o2, o3, hp, rfl, hk, rfl, rfl⟩ := h
  rcases List.eq_nil_or_concat xs with rfl | ⟨ys, y, rfl⟩
  · left
    simp [t21]
  · right
    have hm := pls_mem hp
    have hy : D.pl y = true := hm y (by simp)
    have hys : D.pls ys = true := pls_of fun z hz => hm z (by simp [hz])
    refine ⟨by simp [t21], ?_⟩
    rw [List.concat_eq_append, szs_app] at hk ⊢
    have hs1 : D.szs [y] = D.sz y := by show D.sz y + 0 = _; omega
    rw [hs1] at hk ⊢
    cases y with
    | tup zs =>
      have hz : D.pls zs = true := hy
      have hlz := len_szs zs
      have hly := len_szs ys
      have esz : D.sz (.tup zs) = 1 + D.szs zs := rfl
      have hzl : zs.length ≤ lim := Nat.le_trans hlz (Nat.le_trans (by omega) (Nat.le_trans (Nat.le_add_left _ (D.szs ys)) hk))
      have hlim : lim = 16777216 := rfl
      obtain ⟨ρ2, M2, e1, e2, o, e3⟩ := for_nx (P := pg) (c := c) (g := .one 5) (all := rngL 0 zs.length) (b := [.expr (.meth .append (.var 2) [.tup [.ix (.var 3) (.var 5), .ix (.var 4) (.var 5)]])])
        (fun i ρ M' => M' = M ++ [.lst ((ys ++ zs.take i).map pr)] ∧ ∃ o, ρ = [u, v, some (.ref M.length), some (.tup zs), some (.tup zs), o]) (l := rngL 0 zs.length) (s := 0) (ρ := [u, v, some (.ref M.length), some (.tup zs), some (.tup zs), o3]) (M := M ++ [.lst (ys.map pr)]) (by
        rintro i x ρ M' hx ⟨rfl, o, rfl⟩
        obtain ⟨hi, rfl⟩ := rngL_get hx
        rw [Nat.zero_add]
        refine ⟨_, [u, v, some (.ref M.length), some (.tup zs), some (.tup zs), some (.int i)], M ++ [.lst ((ys ++ zs.take (i + 1)).map pr)], rfl, .inl ?_, rfl, _, rfl⟩
        have g : zs[i]? = some zs[i] := List.getElem?_eq_getElem hi
        have tk : zs.take (i + 1) = zs.take i ++ [zs[i]] := by rw [List.take_succ, g]; rfl
        have lt : ys.length + min i zs.length < 16777216 := by rw [hlim] at hk; omega
        rw [tk]
        simp -implicitDefEqProofs [atI_at, g, lim, pr]
        have tk2 : (zs.map pr).take (i + 1) = (zs.map pr).take i ++ [pr zs[i]] := by rw [List.take_succ, List.getElem?_map, g]; rfl
        simp [lt, tk2]
        rfl) ⟨by simp, o3, rfl⟩
      rw [rngL_len, Nat.zero_add, List.take_length] at e2
      refine ⟨ρ2, M2, D.szs (ys ++ zs), .inl ?_, by rw [szs_app]; omega, ys ++ zs, _, _, _, pls_of (fun z q => ?_), rfl, by rw [szs_app]; omega, e2, e3⟩
      · have rg := rng1_nat (n := zs.length) hzl
        simp -implicitDefEqProofs [b21, pr, bindG, setAll, isKind, kindOf, rg]
        rw [e1]
        rfl
      · rcases List.mem_append.mp q with q | q
        · exact pls_mem hys z q
        · exact pls_mem hz z q
    | non =>
      refine ⟨[u, v, some (.ref M.length), some .non, some .non, o3], M ++ [.lst (ys.map pr)], D.szs ys, .inl ?_, by unfold D.sz; omega, ys, _, _, _, hys, rfl, by omega, rfl, rfl⟩
      simp -implicitDefEqProofs [b21, pr, bindG, setAll, isKind, kindOf]
    | str s => 
      refine ⟨[u, v, some (.ref M.length), some (.str s), some (.str s), o3], M ++ [.lst (ys.map pr)], D.szs ys, .inl ?_, by unfold D.sz; omega, ys, _, _, _, hys, rfl, by omega, rfl, rfl⟩
      simp -implicitDefEqProofs [b21, pr, bindG, setAll, isKind, kindOf]
    | int s => 
      refine ⟨[u, v, some (.ref M.length), some (.int s), some (.int s), o3], M ++ [.lst (ys.map pr)], D.szs ys, .inl ?_, by unfold D.sz; omega, ys, _, _, _, hys, rfl, by omega, rfl, rfl⟩
      simp -implicitDefEqProofs [b21, pr, bindG, setAll, isKind, kindOf]
    | bl s => 
      refine ⟨[u, v, some (.ref M.length), some (.bl s), some (.bl s), o3], M ++ [.lst (ys.map pr)], D.szs ys, .inl ?_, by unfold D.sz; omega, ys, _, _, _, hys, rfl, by omega, rfl, rfl⟩
      simp -implicitDefEqProofs [b21, pr, bindG, setAll, isKind, kindOf]
    | _ => cases hy
theorem same_true {x : D} {M : MH} {d : Nat} (h : D.pl x = true) (hz : D.sz x ≤ lim) (hM : Cl M) : R.f (d + 1) 21 [x, x] M = .ok (.bl true) M := by
  obtain ⟨ρ', M', k', e1, ⟨xs, o1, o2, o3, _, _, _, rfl, rfl⟩, _⟩ := wh_nx (P := pg) (c := ⟨d, none⟩) (t := t21) (b := b21) _ same_step (D.sz x) [some x, some x, some (.ref M.length), none, none, none] (M ++ [.lst [pr x]])
    ⟨[x], none, none, none, by show (D.pl x && true) = true; rw [h]; rfl, by show _ = D.sz x + 0; omega, hz, rfl, rfl⟩
  rw [call_eq (t := f_21) rfl rfl]
  have eb : f_21.body = [.set 2 (.lst true [.tup [.var 0, .var 1]]), .wh t21 b21, .ret (.con (.bl true))] := rfl
  show endF true M.length (R.ss ⟨d, none⟩ f_21.body (startE 6 [x, x]) M) = _
  rw [eb]
  simp [startE, newL, lim]
  have e1' := e1
  simp [pr] at e1'
  rw [e1']
  simp
  exact endF_pl (d := .bl true) (M' := M ++ [.lst (xs.map fun x => .tup [x, x])]) rfl hM (by simp)
end LK

set_option Elab.async false
set_option linter.all false
set_option maxRecDepth 1000000
set_option maxHeartbeats 4000000
namespace LK
open LX
/-! ### what is an instruction -/
abbrev sREP : List Nat := [114, 101, 112, 101, 97, 116]
abbrev sTHREAD : List Nat := [116, 104, 114, 101, 97, 100]
abbrev sPACK : List Nat := [112, 97, 99, 107]
abbrev sTURN : List Nat := [116, 117, 114, 110]
abbrev sTHROW : List Nat := [116, 104, 114, 111, 119]
abbrev wWORD : List Nat := [119, 111, 114, 100]
abbrev wTAB : List Nat := [116, 97, 98, 108, 101, 116]
abbrev wCOL : List Nat := [99, 111, 108, 111, 117, 114, 115]
abbrev wTABS : List Nat := [116, 97, 98, 108, 101, 116, 115]
abbrev wMANY : List Nat := [109, 97, 110, 121]
abbrev wSHAPE : List Nat := [115, 104, 97, 112, 101]
abbrev wEMPTY : List Nat := [101, 109, 112, 116, 121]
abbrev wSIZE : List Nat := [115, 105, 122, 101]
abbrev UP : List Nat := [65, 66, 67, 68, 69, 70, 71, 72, 73, 74, 75, 76, 77, 78, 79, 80, 81, 82, 83, 84, 85, 86, 87, 88, 89, 90]
def isUP (c : Nat) : Bool := decide (c ∈ UP)
def whB : D → Bool
  | .int _ => true
  | _ => false
def numB : D → Bool
  | .int i => decide (0 ≤ i)
  | _ => false
def lowB : D → Bool
  | .int i => decide (0 ≤ i) && decide (i < 24)
  | _ => false
def manyB : D → Bool
  | .int i => decide (2 ≤ i) && decide (i ≤ 40)
  | _ => false
def colB : D → Bool
  | .str s => decide (s.length = 4) && s.all fun c => isUP c
  | _ => false
def toI : D → Int
  | .int i => i
  | _ => 0
def inc : List Int → Bool
  | a :: b :: r => decide (a < b) && inc (b :: r)
  | _ => true
def asB (xs : List D) : Bool := xs.all lowB && inc (xs.map toI)
def tabB : D → Bool
  | .tup xs => !xs.isEmpty && asB xs
  | _ => false
def turnB : D → Bool
  | .str s => decide (s = [70]) || decide (s = [66])
  | _ => false
def lenOf (s : List Nat) : Nat := if s = sTHREAD then 3 else if s = sPACK then 3 else if s = sTURN then 3 else if s = sTHROW then 1 else if s = sREP then 3 else 0
def shp : D → Bool
  | .tup (.str s :: r) => decide (lenOf s = r.length + 1)
  | _ => false
def repB : D → Option (List Nat)
  | .tup ys => if ys.isEmpty then some wEMPTY else none
  | _ => some wSHAPE
/-- the word of three -/
def wd3 (s : List Nat) (a b : D) : Option (List Nat) :=
  if s = sTHREAD then (if lowB a then (if colB b then none else some wCOL) else some wTAB)
  else if s = sPACK then (if lowB a then (if tabB b then none else some wTABS) else some sPACK)
  else if s = sTURN then (if lowB a then (if turnB b then none else some sTURN) else some sPACK)
  else (if manyB a then repB b else some wMANY)
def wd : D → Option (List Nat)
  | .tup [.str s] => if s = sTHROW then none else some wWORD
  | .tup [.str s, a, b] => if lenOf s = 3 then wd3 s a b else some wWORD
  | _ => some wWORD
/-- what one looks like -/
theorem shp_cases {x : D} (h : shp x = true) : (∃ s a b, x = .tup [.str s, a, b] ∧ lenOf s = 3 ∧ (s = sTHREAD ∨ s = sPACK ∨ s = sTURN ∨ s = sREP)) ∨ x = .tup [.str sTHROW] := by
  cases x with
  | tup xs =>
    cases xs with
    | nil => cases h
    | cons y r =>
      cases y with
      | str s =>
        have h' : lenOf s = r.length + 1 := of_decide_eq_true h
        by_cases h1 : s = sTHREAD ∨ s = sPACK ∨ s = sTURN ∨ s = sREP
        · have l3 : lenOf s = 3 := by rcases h1 with rfl | rfl | rfl | rfl <;> rfl
          match r, h', l3 with
          | [a, b], h', l3 => exact .inl ⟨s, a, b, rfl, l3, h1⟩
          | [], h', l3 => simp at h'; omega
          | [a], h', l3 => simp at h'; omega
          | a :: b :: c :: r, h', l3 => simp at h'; omega
        · by_cases h2 : s = sTHROW
          · subst h2
            have l1 : lenOf sTHROW = 1 := rfl
            rw [l1] at h'
            cases r with
            | nil => exact .inr rfl
            | cons a r => simp at h'
          · exfalso
            have l0 : lenOf s = 0 := by
              unfold lenOf
              rw [if_neg (fun e => h1 (.inl e)), if_neg (fun e => h1 (.inr (.inl e))), if_neg (fun e => h1 (.inr (.inr (.inl e)))), if_neg h2, if_neg (fun e => h1 (.inr (.inr (.inr e))))]
            omega
      | _ => cases h
  | _ => cases h
theorem wd_no {x : D} (h : shp x = false) : wd x = some wWORD := by
  unfold wd
  split
  · rename_i s
    by_cases e : s = sTHROW
    · subst e; cases h
    · rw [if_neg e]
  · rename_i s a b
    by_cases e : lenOf s = 3
    · exfalso
      have : decide (lenOf s = 3) = false := h
      rw [decide_eq_true e] at this
      cases this
    · rw [if_neg e]
  · rfl
/-! ### ascending -/
theorem inc_iff : ∀ {l : List Int}, inc l = true ↔ ∀ k a b, l[k]? = some a → l[k + 1]? = some b → a < b
  | [] => ⟨fun _ k a b h => by simp at h, fun _ => rfl⟩
  | [x] => ⟨fun _ k a b _ h => by simp at h, fun _ => rfl⟩
  | x :: y :: r => by
    unfold inc
    rw [Bool.and_eq_true, decide_eq_true_eq, inc_iff]
    constructor
    · intro ⟨h1, h2⟩ k a b ha hb
      cases k with
      | zero =>
        cases ha
        cases hb
        exact h1
      | succ k => exact h2 k a b ha hb
    · intro h
      exact ⟨h 0 x y rfl rfl, fun k a b ha hb => h (k + 1) a b ha hb⟩
theorem inc_snoc {l : List Int} {a b : Int} : inc (l ++ [a] ++ [b]) = (inc (l ++ [a]) && decide (a < b)) := by
  induction l with
  | nil => simp [inc]
  | cons x l ih =>
    cases l with
    | nil => simp [inc, Bool.and_assoc]
    | cons y l =>
      show (decide (x < y) && inc (y :: l ++ [a] ++ [b])) = (decide (x < y) && inc (y :: l ++ [a]) && decide (a < b))
      rw [ih, Bool.and_assoc]
theorem inc_pre : ∀ {l m : List Int}, inc (l ++ m) = true → inc l = true
  | [], _, _ => rfl
  | [x], _, _ => rfl
  | x :: y :: r, m, h => by
    have h' : (decide (x < y) && inc (y :: r ++ m)) = true := h
    rw [Bool.and_eq_true] at h'
    show (decide (x < y) && inc (y :: r)) = true
    rw [h'.1, inc_pre h'.2]
    rfl
theorem low_int {x : D} (h : lowB x = true) : ∃ i, x = .int i ∧ 0 ≤ i ∧ i < 24 := by
  cases x with
  | int i =>
    have h' : (decide (0 ≤ i) && decide (i < 24)) = true := h
    rw [Bool.and_eq_true, decide_eq_true_eq, decide_eq_true_eq] at h'
    exact ⟨i, rfl, h'⟩
  | _ => cases h
theorem as_snoc {xs : List D} {x : D} (i : Nat) (hi : xs.length = i) : asB (xs ++ [x]) = (asB xs && (lowB x && (match xs[i - 1]? with
    | some y => decide (toI y < toI x)
    | none => true))) := by
  unfold asB
  rw [List.all_append, List.map_append]
  rcases List.eq_nil_or_concat xs with rfl | ⟨ys, y, rfl⟩
  · simp at hi
    subst hi
    simp [inc]
  · rw [List.concat_eq_append] at *
    have e1 : (ys ++ [y])[i - 1]? = some y := by
      have : i - 1 = ys.length := by simp at hi; omega
      rw [this]
      simp
    rw [e1, List.map_append]
    have := inc_snoc (l := ys.map toI) (a := toI y) (b := toI x)
    simp only [List.map_cons, List.map_nil]
    rw [this]
    simp only [List.all_cons, List.all_nil, Bool.and_true]
    cases (ys ++ [y]).all lowB <;> cases inc (ys.map toI ++ [toI y]) <;> cases lowB x <;> simp
/-! ### the program's tests of a thing -/
section
variable {M : MH} {d : Nat} {x : D}
theorem whole_ok (hM : Cl M) (hd : 0 < d) : R.f d 0 [x] M = .ok (.bl (whB x)) M := by
  obtain ⟨d, rfl⟩ : ∃ e, d = e + 1 := ⟨d - 1, by omega⟩
  have fin : endF true M.length (.rt (.bl (whB x)) M) = .ok (.bl (whB x)) M := endF_vC rfl (by simp) hM
  rw [call_eq (t := f_0) rfl rfl, ← fin]
  cases x <;> simp -implicitDefEqProofs [f_0, startE, isKind, kindOf, whB]
theorem number_ok (hM : Cl M) (hd : 1 < d) : R.f d 1 [x] M = .ok (.bl (numB x)) M := by
  obtain ⟨d, rfl⟩ : ∃ e, d = e + 1 := ⟨d - 1, by omega⟩
  have w := whole_ok (x := x) (d := d) hM (by omega)
  have fin : endF true M.length (.rt (.bl (numB x)) M) = .ok (.bl (numB x)) M := endF_vC rfl (by simp) hM
  rw [call_eq (t := f_1) rfl rfl, ← fin]
  cases x <;> simp only [whB] at w <;> simp -implicitDefEqProofs [f_1, startE, w, numB]
theorem low_ok (hM : Cl M) (hd : 2 < d) : R.f d 7 [x] M = .ok (.bl (lowB x)) M := by
  obtain ⟨d, rfl⟩ : ∃ e, d = e + 1 := ⟨d - 1, by omega⟩
  have w := number_ok (x := x) (d := d) hM (by omega)
  have fin : endF true M.length (.rt (.bl (lowB x)) M) = .ok (.bl (lowB x)) M := endF_vC rfl (by simp) hM
  rw [call_eq (t := f_7) rfl rfl, ← fin]
  cases x with
  | int i =>
    simp only [numB] at w
    by_cases h : 0 ≤ i <;> simp -implicitDefEqProofs [f_7, startE, w, lowB, h]
  | _ => simp only [numB] at w; simp -implicitDefEqProofs [f_7, startE, w, lowB]
theorem lwhole_ok {a b : Int} (hM : Cl M) (hd : 0 < d) : R.f d 22 [x, .int a, .int b] M = .ok (.bl (match x with
    | .int i => decide (a ≤ i) && decide (i ≤ b)
    | _ => false)) M := by
  obtain ⟨d, rfl⟩ : ∃ e, d = e + 1 := ⟨d - 1, by omega⟩
  have fin : ∀ k, endF true M.length (.rt (.bl k) M) = .ok (.bl k) M := fun k => endF_vC rfl (by simp) hM
  rw [call_eq (t := f_22) rfl rfl, ← fin]
  cases x with
  | int i => by_cases h : a ≤ i <;> simp -implicitDefEqProofs [f_22, startE, isKind, kindOf, h]
  | _ => simp -implicitDefEqProofs [f_22, startE, isKind, kindOf]
theorem llow_ok (hM : Cl M) (hd : 0 < d) : R.f d 22 [x, .int 0, .int 23] M = .ok (.bl (lowB x)) M := by
  rw [lwhole_ok hM hd]
  cases x with
  | int i =>
    have : (decide (i ≤ 23)) = decide (i < 24) := by
      rw [Bool.eq_iff_iff, decide_eq_true_eq, decide_eq_true_eq]
      omega
    show Res.ok (D.bl (decide (0 ≤ i) && decide (i ≤ 23))) M = _
    rw [this]
    rfl
  | _ => rfl
theorem lmany_ok (hM : Cl M) (hd : 0 < d) : R.f d 22 [x, .int 2, .int 40] M = .ok (.bl (manyB x)) M := by
  rw [lwhole_ok hM hd]
  cases x <;> rfl
theorem in_up {M : MH} {c : Nat} : cmpD M .NotIn (.str [c]) (.str UP) = some (!isUP c) := rfl
theorem signs_ok {s : List Nat} (hM : Cl M) (hd : 0 < d) : R.f d 4 [.str s, .str UP] M = .ok (.bl (s.all fun c => isUP c)) M := by
  obtain ⟨d, rfl⟩ : ∃ e, d = e + 1 := ⟨d - 1, by omega⟩
  have key := for_ex (P := pg) (c := ⟨d, none⟩) (g := .one 2) (all := s.map fun c => .str [c]) (b := [.ite (.cmp .NotIn (.var 2) (.var 1)) [.ret (.con (.bl false))] []])
    (fun i ρ M' => M' = M ∧ (s.take i).all (fun c => isUP c) = true ∧ ∃ o, ρ = [some (.str s), some (.str UP), o]) (fun d M' => d = .bl false ∧ M' = M ∧ s.all (fun c => isUP c) = false) (l := s.map fun c => .str [c]) (s := 0) (ρ := [some (.str s), some (.str UP), none]) (M := M) (by
    rintro i x ρ M' hi ⟨rfl, hall, o, rfl⟩
    rw [List.getElem?_map] at hi
    obtain ⟨c, hc, rfl⟩ := Option.map_eq_some_iff.mp hi
    rw [Nat.zero_add] at hall ⊢
    refine ⟨_, rfl, ?_⟩
    by_cases h : isUP c = true
    · refine .inl ⟨[some (.str s), some (.str UP), some (.str [c])], M', ?_, rfl, ?_, _, rfl⟩
      · simp -implicitDefEqProofs [in_up, h]
      · rw [List.take_succ, hc, List.all_append, hall]
        simpa using h
    · have h : isUP c = false := by simpa using h
      refine .inr ⟨.bl false, M', ?_, rfl, rfl, ?_⟩
      · simp -implicitDefEqProofs [in_up, h]
      · rw [List.all_eq_false]
        exact ⟨c, List.mem_of_getElem? hc, by simpa using h⟩) ⟨rfl, rfl, none, rfl⟩
  rw [call_eq (t := f_4) rfl rfl]
  rcases key with ⟨ρ', M', e1, rfl, hall, o, rfl⟩ | ⟨d', M', e1, rfl, rfl, hall⟩
  · rw [Nat.zero_add, List.length_map, List.take_length] at hall
    simp -implicitDefEqProofs [f_4, startE]
    rw [e1, hall]
    simp
    exact endF_vC rfl (by simp) hM
  · simp -implicitDefEqProofs [f_4, startE]
    rw [e1, hall]
    exact endF_vC rfl (by simp) hM
/-- colours -/
def clB : D → Bool
  | .str s => !s.isEmpty && s.all fun c => isUP c
  | _ => false
theorem colours5_ok (hM : Cl M) (hd : 1 < d) : R.f d 5 [x] M = .ok (.bl (clB x)) M := by
  obtain ⟨d, rfl⟩ : ∃ e, d = e + 1 := ⟨d - 1, by omega⟩
  have fin : ∀ k, endF true M.length (.rt (.bl k) M) = .ok (.bl k) M := fun k => endF_vC rfl (by simp) hM
  rw [call_eq (t := f_5) rfl rfl, ← fin]
  cases x with
  | str s =>
    have w := signs_ok (s := s) (d := d) hM (by omega)
    cases s with
    | nil => simp -implicitDefEqProofs [f_5, startE, isKind, kindOf, clB]
    | cons c s =>
      have hp : (0 : Int) < (((c :: s).length : Nat) : Int) := by simp
      have hc : clB (.str (c :: s)) = (c :: s).all fun c => isUP c := rfl
      rw [hc]
      generalize (c :: s).all (fun c => isUP c) = k at *
      generalize c :: s = z at *
      simp -implicitDefEqProofs [-Int.natCast_pos, f_5, startE, isKind, kindOf, w, hp]
  | _ => simp -implicitDefEqProofs [f_5, startE, isKind, kindOf, clB]
theorem word_ok (hM : Cl M) (hd : 0 < d) : R.f d 2 [x, .tup [.str [70], .str [66]]] M = .ok (.bl (turnB x)) M := by
  obtain ⟨d, rfl⟩ : ∃ e, d = e + 1 := ⟨d - 1, by omega⟩
  have fin : ∀ k, endF true M.length (.rt (.bl k) M) = .ok (.bl k) M := fun k => endF_vC rfl (by simp) hM
  rw [call_eq (t := f_2) rfl rfl, ← fin]
  cases x with
  | str s =>
    have e : cmpD M .In (.str s) (.tup [.str [70], .str [66]]) = some (turnB (.str s)) := by
      have e1 : cmpD M .In (.str s) (.tup [.str [70], .str [66]]) = some (([70] == s) || (([66] == s) || false)) := by
        match s with
        | [] => rfl
        | [c] => rfl
        | c :: c' :: r => rfl
      rw [e1]
      have h1 : ([70] == s) = decide (s = [70]) := by rw [Bool.eq_iff_iff, beq_iff_eq, decide_eq_true_eq, eq_comm]
      have h2 : ([66] == s) = decide (s = [66]) := by rw [Bool.eq_iff_iff, beq_iff_eq, decide_eq_true_eq, eq_comm]
      rw [h1, h2, Bool.or_false]
      rfl
    simp -implicitDefEqProofs [f_2, startE, isKind, kindOf, e]
  | _ => simp -implicitDefEqProofs [f_2, startE, isKind, kindOf, turnB]
def b3 : List S := [.ite (.or (.not (.truth (.call 1 [.ix (.var 0) (.var 2)]))) (.cmp .GtE (.ix (.var 0) (.var 2)) (.var 1))) [.ret (.con (.bl false))] [], .ite (.and (.cmp .Gt (.var 2) (.con (.int 0))) (.cmp .GtE (.ix (.var 0) (.bin false .Sub (.var 2) (.con (.int 1)))) (.ix (.var 0) (.var 2)))) [.ret (.con (.bl false))] []]
theorem numbers3_ok (hM : Cl M) (hd : 2 < d) {xs : List D} (hz : xs.length ≤ lim) : R.f d 3 [.tup xs, .int 24] M = .ok (.bl (asB xs)) M := by
  obtain ⟨d, rfl⟩ : ∃ e, d = e + 1 := ⟨d - 1, by omega⟩
  have fin : ∀ k, endF true M.length (.rt (.bl k) M) = .ok (.bl k) M := fun k => endF_vC rfl (by simp) hM
  have key := for_ex (P := pg) (c := ⟨d, none⟩) (g := .one 2) (all := rngL 0 xs.length) (b := b3)
    (fun i ρ M' => M' = M ∧ asB (xs.take i) = true ∧ ∃ o, ρ = [some (.tup xs), some (.int 24), o]) (fun d M' => d = .bl false ∧ M' = M ∧ asB xs = false) (l := rngL 0 xs.length) (s := 0) (ρ := [some (.tup xs), some (.int 24), none]) (M := M) (by
    rintro i x ρ M' hx ⟨rfl, hall, o, rfl⟩
    obtain ⟨hi, rfl⟩ := rngL_get hx
    clear hx
    rw [Nat.zero_add] at hall ⊢
    rw [Int.zero_add]
    have g : xs[i]? = some xs[i] := List.getElem?_eq_getElem hi
    have tk : xs.take (i + 1) = xs.take i ++ [xs[i]] := by rw [List.take_succ, g]; rfl
    have lt : (xs.take i).length = i := by rw [List.length_take]; omega
    have as := as_snoc (xs := xs.take i) (x := xs[i]) i lt
    rw [← tk, hall, Bool.true_and] at as
    have bad : asB (xs.take (i + 1)) = false → asB xs = false := fun h => by
      cases q : asB xs with
      | false => rfl
      | true =>
        exfalso
        have q2 : asB (xs.take (i + 1)) = true := by
          unfold asB at q ⊢
          rw [Bool.and_eq_true] at q ⊢
          refine ⟨List.all_eq_true.mpr fun y hy => List.all_eq_true.mp q.1 y (List.mem_of_mem_take hy), ?_⟩
          rw [List.map_take]
          exact inc_pre (m := (xs.map toI).drop (i + 1)) (by rw [List.take_append_drop]; exact q.2)
        rw [h] at q2
        cases q2
    have nb := number_ok (x := xs[i]) (d := d) hM (by omega)
    have prev : 0 < i → ∃ j, xs[i - 1]? = some (.int j) ∧ (xs.take i)[i - 1]? = some (.int j) := fun h => by
      have h1 : i - 1 < xs.length := by omega
      have h2 : xs[i - 1] ∈ xs.take i := by
        have : (xs.take i)[i - 1]? = some xs[i - 1] := by rw [List.getElem?_take, if_pos (by omega), List.getElem?_eq_getElem h1]
        exact List.mem_of_getElem? this
      unfold asB at hall
      rw [Bool.and_eq_true] at hall
      obtain ⟨j, hj, _⟩ := low_int (List.all_eq_true.mp hall.1 _ h2)
      refine ⟨j, ?_, ?_⟩
      · rw [List.getElem?_eq_getElem h1, hj]
      · rw [List.getElem?_take, if_pos (by omega), List.getElem?_eq_getElem h1, hj]
    generalize xs[i] = y at g as nb tk
    refine ⟨_, rfl, ?_⟩
    by_cases hy : lowB y = true
    · obtain ⟨v, rfl, v1, v2⟩ := low_int hy
      have nv : numB (.int v) = true := decide_eq_true v1
      rw [nv] at nb
      have nge : ¬ (24 : Int) ≤ v := by omega
      by_cases h0 : i = 0
      · subst h0
        refine .inl ⟨[some (.tup xs), some (.int 24), some (.int ((0 : Nat) : Int))], M', ?_, rfl, ?_, _, rfl⟩
        · simp -implicitDefEqProofs [b3, atI_0, g, nb, nge]
        · rw [as, hy]
          rfl
      · obtain ⟨j, p1, p2⟩ := prev (by omega)
        rw [p2] at as
        have as' : asB (xs.take (i + 1)) = decide (j < v) := by rw [as, hy, Bool.true_and]; rfl
        have e1 : ((i : Int) - 1) = ((i - 1 : Nat) : Int) := by omega
        have hi0 : (0 : Int) < (i : Int) := by omega
        have a1 : L2.atI xs (i : Int) = some (.int v) := by rw [atI_at, g]
        have a2 : L2.atI xs ((i - 1 : Nat) : Int) = some (.int j) := by rw [atI_at, p1]
        by_cases hj : j < v
        · refine .inl ⟨[some (.tup xs), some (.int 24), some (.int (i : Nat))], M', ?_, rfl, by rw [as', decide_eq_true hj], _, rfl⟩
          have hnj : ¬ v ≤ j := by omega
          simp -implicitDefEqProofs [-Int.natCast_pos, b3, a1, nb, nge, hi0, e1, a2, hnj]
        · refine .inr ⟨.bl false, M', ?_, rfl, rfl, bad (by rw [as', decide_eq_false hj])⟩
          have hnj : v ≤ j := by omega
          simp -implicitDefEqProofs [-Int.natCast_pos, b3, a1, nb, nge, hi0, e1, a2, hnj]
    · have hy : lowB y = false := by simpa using hy
      refine .inr ⟨.bl false, M', ?_, rfl, rfl, bad (by rw [as, hy]; rfl)⟩
      have a1 : L2.atI xs (i : Int) = some y := by rw [atI_at, g]
      cases hn : numB y with
      | false =>
        rw [hn] at nb
        simp -implicitDefEqProofs [b3, a1, nb]
      | true =>
        rw [hn] at nb
        cases y with
        | int v =>
          have v1 : 0 ≤ v := of_decide_eq_true hn
          have v2 : (24 : Int) ≤ v := by
            have hy' : (decide (0 ≤ v) && decide (v < 24)) = false := hy
            rw [decide_eq_true v1, Bool.true_and, decide_eq_false_iff_not] at hy'
            omega
          simp -implicitDefEqProofs [b3, a1, nb, v2]
        | _ => cases hn) ⟨rfl, rfl, none, rfl⟩
  rw [call_eq (t := f_3) rfl rfl]
  have rg := rng1_nat hz
  have eb : f_3.body = [.ite (.not (.isi [.tuple] (.var 0))) [.ret (.con (.bl false))] [], .for (.one 2) (.rng1 (.fn false .len [.var 0])) b3, .ret (.con (.bl true))] := rfl
  show endF true M.length (R.ss ⟨d, none⟩ f_3.body (startE 3 [.tup xs, .int 24]) M) = _
  rw [eb]
  rcases key with ⟨ρ', M', e1, rfl, hall, o, rfl⟩ | ⟨d', M', e1, rfl, rfl, hall⟩
  · rw [Nat.zero_add, rngL_len, List.take_length] at hall
    simp -implicitDefEqProofs [startE, isKind, kindOf, rg]
    rw [e1, hall]
    simp
    exact fin true
  · simp -implicitDefEqProofs [startE, isKind, kindOf, rg]
    rw [e1, hall]
    exact fin false
end
end LK

set_option Elab.async false
set_option linter.all false
set_option maxRecDepth 1000000
set_option maxHeartbeats 4000000
namespace LK
open LX
/-! ### code, gone through -/
abbrev Ex : Type := Except (List Nat × List Nat) (Nat × Nat)
def bump : Ex → Ex
  | .ok (m, b) => .ok (1 + m, 1 + b)
  | .error e => .error e
mutual
def lk : D → List Nat → Ex
  | .tup [.str s, a, .tup ys], p => match wd (.tup [.str s, a, .tup ys]) with
    | some w => .error (p, w)
    | none => if s = sREP then bump (gn ys 0 p) else .ok (1, 0)
  | x, p => match wd x with
    | some w => .error (p, w)
    | none => .ok (1, 0)
def gn : List D → Nat → List Nat → Ex
  | [], _, _ => .ok (0, 0)
  | x :: xs, i, p => match lk x (p ++ [i]) with
    | .error e => .error e
    | .ok (a, b) => match gn xs (i + 1) p with
      | .error e => .error e
      | .ok (m, c) => .ok (a + m, max b c)
end
theorem lk_bad {x : D} {p w : List Nat} (h : wd x = some w) : lk x p = .error (p, w) := by
  unfold lk
  split
  · rw [h]
  · rw [h]
theorem lk_leaf {x : D} {p : List Nat} (h : wd x = none) (hn : ∀ a ys, x ≠ .tup [.str sREP, a, .tup ys]) : lk x p = .ok (1, 0) := by
  unfold lk
  split
  · rename_i s a ys
    rw [h]
    by_cases e : s = sREP
    · subst e; exact absurd rfl (hn a ys)
    · exact if_neg e
  · rw [h]
theorem lk_rep {a : D} {ys : List D} {p : List Nat} (h : wd (.tup [.str sREP, a, .tup ys]) = none) : lk (.tup [.str sREP, a, .tup ys]) p = bump (gn ys 0 p) := by
  conv => lhs; unfold lk
  rw [h]
  exact if_pos rfl
mutual
def dpx : D → Nat
  | .tup xs => 1 + dps xs
  | _ => 0
def dps : List D → Nat
  | [] => 0
  | x :: xs => max (dpx x) (dps xs)
end
theorem dps_mem : ∀ {xs : List D} {x : D}, x ∈ xs → dpx x ≤ dps xs
  | y :: ys, x, h => by
    rw [dps]
    rcases List.mem_cons.mp h with rfl | h
    · omega
    · have := dps_mem h
      omega
theorem szs_mem : ∀ {xs : List D} {x : D}, x ∈ xs → D.sz x ≤ D.szs xs
  | y :: ys, x, h => by
    rw [D.szs]
    rcases List.mem_cons.mp h with rfl | h
    · omega
    · have := szs_mem h
      omega
def pth (p : List Nat) : D := .tup (p.map fun i => .int (i : Nat))
theorem pth_und (n : Nat) (p : List Nat) : D.und n (pth p) = true := unds_of fun x hx => by
  obtain ⟨i, _, rfl⟩ := List.mem_map.mp hx
  rfl
abbrev bad {α : Type} (p w : List Nat) (M : MH) : Res α := .exn 0 [("path", pth p), ("word", .str w)] M
theorem xc0 : pg.xcs[0]? = some ⟨["path", "word"], [0, 2, 1]⟩ := rfl
theorem lv : pg.live = 1 := rfl
theorem bad_end {p w : List Nat} {M M' : MH} {ρ : LX.Env} (ht : M'.take M.length = M) (hM : Cl M) : endF true M.length (.exn 0 [("path", pth p), ("word", .str w)] ρ M') = bad p w M :=
  endF_xC (by show (D.und 0 (pth p) && (true && true)) = true; rw [pth_und]; rfl) ht hM
def LEN : List (List Nat × D) := [([116, 104, 114, 101, 97, 100], (.int 3)), ([112, 97, 99, 107], (.int 3)), ([116, 117, 114, 110], (.int 3)), ([116, 104, 114, 111, 119], (.int 1)), ([114, 101, 112, 101, 97, 116], (.int 3))]
theorem len_tget {s : List Nat} : tgetD LEN (.str s) (.int 0) = .int (lenOf s : Nat) := by
  by_cases h1 : s = sTHREAD
  · subst h1; rfl
  by_cases h2 : s = sPACK
  · subst h2; rfl
  by_cases h3 : s = sTURN
  · subst h3; rfl
  by_cases h4 : s = sTHROW
  · subst h4; rfl
  by_cases h5 : s = sREP
  · subst h5; rfl
  have e0 : lenOf s = 0 := by
    unfold lenOf
    rw [if_neg h1, if_neg h2, if_neg h3, if_neg h4, if_neg h5]
  have b1 : (s == sTHREAD) = false := beq_eq_false_iff_ne.mpr h1
  have b2 : (s == sPACK) = false := beq_eq_false_iff_ne.mpr h2
  have b3 : (s == sTURN) = false := beq_eq_false_iff_ne.mpr h3
  have b4 : (s == sTHROW) = false := beq_eq_false_iff_ne.mpr h4
  have b5 : (s == sREP) = false := beq_eq_false_iff_ne.mpr h5
  rw [e0]
  show (List.lookup s LEN).getD (.int 0) = .int 0
  unfold LEN
  simp only [List.lookup, b1, b2, b3, b4, b5]
  rfl
section
variable {M : MH} {d : Nat} {x : D} {p : List Nat}
theorem word6_ok (hM : Cl M) (hd : 0 < d) : R.f d 6 [x, pth p] M = if shp x then .ok .non M else bad p wWORD M := by
  obtain ⟨d, rfl⟩ : ∃ e, d = e + 1 := ⟨d - 1, by omega⟩
  have fin : ∀ ρ : LX.Env, endF true M.length (.nx ρ M) = .ok .non M := fun ρ => endF_nxC (by simp) hM
  have bd : ∀ ρ : LX.Env, endF true M.length (.exn 0 [("path", pth p), ("word", .str wWORD)] ρ M) = bad p wWORD M := fun ρ => bad_end (by simp) hM
  rw [call_eq (t := f_6) rfl rfl]
  have eb : f_6.body = [.ite (.or (.not (.isi [.tuple] (.var 0))) (.or (.cmp .Eq (.fn false .len [.var 0]) (.con (.int 0))) (.not (.isi [.str] (.ix (.var 0) (.con (.int 0))))))) [.raise 0 [.var 1, .con (.str wWORD)]] [], .ite (.cmp .NotEq (.tget LEN (.ix (.var 0) (.con (.int 0))) (.con (.int 0))) (.fn false .len [.var 0])) [.raise 0 [.var 1, .con (.str wWORD)]] []] := rfl
  show endF true M.length (R.ss ⟨d, none⟩ f_6.body [some x, some (pth p)] M) = _
  rw [eb]
  generalize pth p = P at *
  cases x with
  | tup xs =>
    cases xs with
    | nil =>
      rw [if_neg (show ¬ shp (.tup []) = true by decide), ← bd [some (.tup []), some P]]
      simp -implicitDefEqProofs [isKind, kindOf, xc0, zipF]
    | cons y r =>
      cases y with
      | str s =>
        have hne : (((D.str s :: r).length : Nat) : Int) ≠ 0 := by simp; omega
        have hl : ((D.str s :: r).length : Nat) = r.length + 1 := rfl
        have nb : (((r.length : Int) + 1) == 0) = false := beq_eq_false_iff_ne.mpr (by omega)
        have l := len_tget (s := s)
        by_cases e : lenOf s = r.length + 1
        · rw [if_pos (show shp (.tup (.str s :: r)) = true from decide_eq_true e), ← fin [some (.tup (.str s :: r)), some P]]
          rw [e] at l
          generalize LEN = L at *
          simp -implicitDefEqProofs [isStrD, isKind, kindOf, atI_0, l, nb]
        · rw [if_neg (show ¬ shp (.tup (.str s :: r)) = true by show ¬ decide (lenOf s = r.length + 1) = true; rw [decide_eq_false e]; decide), ← bd [some (.tup (.str s :: r)), some P]]
          have ne : (((lenOf s : Nat) : Int) == (r.length : Int) + 1) = false := beq_eq_false_iff_ne.mpr (by omega)
          generalize LEN = L at *
          simp -implicitDefEqProofs [isStrD, isKind, kindOf, atI_0, l, nb, ne, xc0, zipF]
      | _ =>
        have nb : (((r.length : Int) + 1) == 0) = false := beq_eq_false_iff_ne.mpr (by omega)
        rw [if_neg (fun h => by cases h)]
        simp -implicitDefEqProofs [isKind, kindOf, atI_0, nb, xc0, zipF]
        exact bd _
  | _ =>
    rw [if_neg (fun h => by cases h)]
    simp -implicitDefEqProofs [isKind, kindOf, xc0, zipF]
    exact bd _
theorem thread_ok {s : List Nat} {a b : D} (hM : Cl M) (hd : 3 < d) : R.f d 8 [.tup [.str s, a, b], pth p] M = if lowB a then (if colB b then .ok .non M else bad p wCOL M) else bad p wTAB M := by
  obtain ⟨d, rfl⟩ : ∃ e, d = e + 1 := ⟨d - 1, by omega⟩
  have fin : ∀ ρ : LX.Env, endF true M.length (.nx ρ M) = .ok .non M := fun ρ => endF_nxC (by simp) hM
  have bd : ∀ (w : List Nat) (ρ : LX.Env), endF true M.length (.exn 0 [("path", pth p), ("word", .str w)] ρ M) = bad p w M := fun w ρ => bad_end (by simp) hM
  have lo := low_ok (x := a) (d := d) hM (by omega)
  have co := colours5_ok (x := b) (d := d) hM (by omega)
  rw [call_eq (t := f_8) rfl rfl]
  show endF true M.length (R.ss ⟨d, none⟩ f_8.body [some (.tup [.str s, a, b]), some (pth p)] M) = _
  generalize pth p = P at *
  cases la : lowB a with
  | false =>
    rw [la] at lo
    rw [if_neg (by decide), ← bd wTAB [some (.tup [.str s, a, b]), some P]]
    simp -implicitDefEqProofs [f_8, atI_1, lo, xc0, zipF]
  | true =>
    rw [la] at lo
    rw [if_pos rfl]
    cases b with
    | str z =>
      by_cases h4 : z.length = 4
      · have ne : z.isEmpty = false := by
          cases z with
          | nil => simp at h4
          | cons _ _ => rfl
        have cc : clB (.str z) = colB (.str z) := by
          show (!z.isEmpty && z.all fun c => isUP c) = (decide (z.length = 4) && z.all fun c => isUP c)
          rw [ne, decide_eq_true h4]
          rfl
        rw [cc] at co
        have e4 : ((z.length : Int) == 4) = true := beq_iff_eq.mpr (by omega)
        cases hc : colB (.str z) with
        | true =>
          rw [hc] at co
          rw [if_pos rfl, ← fin [some (.tup [.str s, a, .str z]), some P]]
          simp -implicitDefEqProofs [f_8, atI_1, atI_2, lo, co, e4]
        | false =>
          rw [hc] at co
          rw [if_neg (by decide), ← bd wCOL [some (.tup [.str s, a, .str z]), some P]]
          simp -implicitDefEqProofs [f_8, atI_1, atI_2, lo, co, e4, xc0, zipF]
      · have hc : colB (.str z) = false := by
          show (decide (z.length = 4) && _) = false
          rw [decide_eq_false h4]
          rfl
        have e4 : ((z.length : Int) == 4) = false := beq_eq_false_iff_ne.mpr (by omega)
        rw [hc, if_neg (by decide), ← bd wCOL [some (.tup [.str s, a, .str z]), some P]]
        cases hk : clB (.str z) with
        | true =>
          rw [hk] at co
          simp -implicitDefEqProofs [f_8, atI_1, atI_2, lo, co, e4, xc0, zipF]
        | false =>
          rw [hk] at co
          simp -implicitDefEqProofs [f_8, atI_1, atI_2, lo, co, e4, xc0, zipF]
    | _ =>
      simp only [clB] at co
      rw [if_neg (fun h => by cases h)]
      simp -implicitDefEqProofs [f_8, atI_1, atI_2, lo, co, xc0, zipF]
      exact bd _ _
theorem numbers3_no (hM : Cl M) (hd : 0 < d) (hx : isKind [.tuple] x = false) : R.f d 3 [x, .int 24] M = .ok (.bl false) M := by
  obtain ⟨d, rfl⟩ : ∃ e, d = e + 1 := ⟨d - 1, by omega⟩
  rw [call_eq (t := f_3) rfl rfl]
  simp -implicitDefEqProofs [f_3, startE, hx]
  exact endF_vC rfl (by simp) hM
theorem pack_ok {s : List Nat} {a b : D} (hs : s = sPACK ∨ s = sTURN) (hM : Cl M) (hd : 3 < d) (hz : D.sz b ≤ lim) : R.f d 9 [.tup [.str s, a, b], pth p] M = match wd3 s a b with
    | none => .ok .non M
    | some w => bad p w M := by
  obtain ⟨d, rfl⟩ : ∃ e, d = e + 1 := ⟨d - 1, by omega⟩
  have fin : ∀ ρ : LX.Env, endF true M.length (.nx ρ M) = .ok .non M := fun ρ => endF_nxC (by simp) hM
  have bd : ∀ (w : List Nat) (ρ : LX.Env), endF true M.length (.exn 0 [("path", pth p), ("word", .str w)] ρ M) = bad p w M := fun w ρ => bad_end (by simp) hM
  have lo := low_ok (x := a) (d := d) hM (by omega)
  rw [call_eq (t := f_9) rfl rfl]
  show endF true M.length (R.ss ⟨d, none⟩ f_9.body [some (.tup [.str s, a, b]), some (pth p)] M) = _
  generalize pth p = P at *
  cases la : lowB a with
  | false =>
    rw [la] at lo
    have e : wd3 s a b = some sPACK := by
      rcases hs with rfl | rfl <;> simp [wd3, la]
    rw [e]
    dsimp only
    rw [← bd sPACK [some (.tup [.str s, a, b]), some P]]
    simp -implicitDefEqProofs [f_9, atI_1, lo, xc0, zipF]
  | true =>
    rw [la] at lo
    rcases hs with rfl | rfl
    · have e : wd3 sPACK a b = if tabB b then none else some wTABS := by simp [wd3, la]
      rw [e]
      have nno : isKind [.tuple] b = false → R.f d 3 [b, .int 24] M = .ok (.bl false) M := fun h => numbers3_no hM (by omega) h
      cases b with
      | tup xs =>
        have nn := numbers3_ok (xs := xs) (d := d) hM (by omega) (by have := len_szs xs; have : D.sz (.tup xs) = 1 + D.szs xs := rfl; omega)
        have et : tabB (.tup xs) = (!xs.isEmpty && asB xs) := rfl
        rw [et]
        cases xs with
        | nil =>
          show _ = bad p wTABS M
          rw [← bd wTABS [some (.tup [.str sPACK, a, .tup []]), some P]]
          have na : asB [] = true := rfl
          rw [na] at nn
          simp -implicitDefEqProofs [f_9, atI_0, atI_1, atI_2, lo, nn, xc0, zipF]
        | cons y ys =>
          have nb : (((ys.length : Int) + 1) == 0) = false := beq_eq_false_iff_ne.mpr (by omega)
          have ee : (!(y :: ys).isEmpty && asB (y :: ys)) = asB (y :: ys) := rfl
          rw [ee]
          cases ha : asB (y :: ys) with
          | true =>
            rw [ha] at nn
            rw [if_pos rfl]
            dsimp only
            rw [← fin [some (.tup [.str sPACK, a, .tup (y :: ys)]), some P]]
            simp -implicitDefEqProofs [f_9, atI_0, atI_1, atI_2, lo, nn, nb]
          | false =>
            rw [ha] at nn
            rw [if_neg (by decide)]
            dsimp only
            rw [← bd wTABS [some (.tup [.str sPACK, a, .tup (y :: ys)]), some P]]
            simp -implicitDefEqProofs [f_9, atI_0, atI_1, atI_2, lo, nn, nb, xc0, zipF]
      | _ =>
        have nn := nno rfl
        rw [if_neg (fun h => by cases h)]
        simp -implicitDefEqProofs [f_9, atI_0, atI_1, atI_2, lo, nn, xc0, zipF]
        exact bd _ _
    · have e : wd3 sTURN a b = if turnB b then none else some sTURN := by simp [wd3, la]
      have wo := word_ok (x := b) (d := d) hM (by omega)
      rw [e]
      cases ht : turnB b with
      | true =>
        rw [ht] at wo
        rw [if_pos rfl]
        dsimp only
        rw [← fin [some (.tup [.str sTURN, a, b]), some P]]
        simp -implicitDefEqProofs [f_9, atI_0, atI_1, atI_2, lo, wo, lim]
      | false =>
        rw [ht] at wo
        rw [if_neg (by decide)]
        dsimp only
        rw [← bd sTURN [some (.tup [.str sTURN, a, b]), some P]]
        simp -implicitDefEqProofs [f_9, atI_0, atI_1, atI_2, lo, wo, lim, xc0, zipF]
theorem repeat_ok {a b : D} (hM : Cl M) (hd : 1 < d) : R.f d 10 [.tup [.str sREP, a, b], pth p] M = match wd3 sREP a b with
    | none => .ok .non M
    | some w => bad p w M := by
  obtain ⟨d, rfl⟩ : ∃ e, d = e + 1 := ⟨d - 1, by omega⟩
  have fin : ∀ ρ : LX.Env, endF true M.length (.nx ρ M) = .ok .non M := fun ρ => endF_nxC (by simp) hM
  have bd : ∀ (w : List Nat) (ρ : LX.Env), endF true M.length (.exn 0 [("path", pth p), ("word", .str w)] ρ M) = bad p w M := fun w ρ => bad_end (by simp) hM
  have wh := whole_ok (x := a) (d := d) hM (by omega)
  rw [call_eq (t := f_10) rfl rfl]
  show endF true M.length (R.ss ⟨d, none⟩ f_10.body [some (.tup [.str sREP, a, b]), some (pth p)] M) = _
  generalize pth p = P at *
  have e : wd3 sREP a b = if manyB a then repB b else some wMANY := by simp [wd3]
  rw [e]
  cases ma : manyB a with
  | false =>
    rw [if_neg (by decide)]
    dsimp only
    cases a with
    | int i =>
      rw [← bd wMANY [some (.tup [.str sREP, .int i, b]), some P]]
      simp only [whB] at wh
      have ma' : (decide (2 ≤ i) && decide (i ≤ 40)) = false := ma
      by_cases h2 : 2 ≤ i
      · have h3 : ¬ i ≤ 40 := by
          rw [decide_eq_true h2, Bool.true_and, decide_eq_false_iff_not] at ma'
          exact ma'
        simp -implicitDefEqProofs [f_10, atI_1, wh, h2, h3, xc0, zipF]
      · simp -implicitDefEqProofs [f_10, atI_1, wh, h2, xc0, zipF]
    | _ =>
      simp only [whB] at wh
      simp -implicitDefEqProofs [f_10, atI_1, wh, xc0, zipF]
      exact bd _ _
  | true =>
    cases a with
    | int i =>
      simp only [whB] at wh
      have ma' : (decide (2 ≤ i) && decide (i ≤ 40)) = true := ma
      rw [Bool.and_eq_true, decide_eq_true_eq, decide_eq_true_eq] at ma'
      obtain ⟨h2, h3⟩ := ma'
      rw [if_pos rfl]
      cases b with
      | tup ys =>
        cases ys with
        | nil =>
          show _ = bad p wEMPTY M
          rw [← bd wEMPTY [some (.tup [.str sREP, .int i, .tup []]), some P]]
          simp -implicitDefEqProofs [f_10, atI_1, atI_2, wh, h2, h3, isKind, kindOf, xc0, zipF]
        | cons y ys =>
          have nb : (((ys.length : Int) + 1) == 0) = false := beq_eq_false_iff_ne.mpr (by omega)
          have er : repB (.tup (y :: ys)) = none := rfl
          rw [er]
          dsimp only
          rw [← fin [some (.tup [.str sREP, .int i, .tup (y :: ys)]), some P]]
          simp -implicitDefEqProofs [f_10, atI_1, atI_2, wh, h2, h3, isKind, kindOf, nb]
      | _ =>
        simp only [repB]
        simp -implicitDefEqProofs [f_10, atI_1, atI_2, wh, h2, h3, isKind, kindOf, xc0, zipF]
        exact bd _ _
    | _ => cases ma
end
end LK

set_option Elab.async false
set_option linter.all false
set_option maxRecDepth 1000000
set_option maxHeartbeats 4000000
namespace LK
open LX
def exR (r : Ex) (M : MH) : Res D :=
  match r with
  | .ok (m, b) => .ok (.tup [.int (m : Nat), .int (b : Nat)]) M
  | .error (q, w) => bad q w M
def b12 : List S := [.unp [5, 6] (.call 11 [.ix (.var 0) (.var 4), .bin false .Add (.var 1) (.tup [.var 4])]), .aug 2 .Add (.var 5), .set 3 (.fn false .max2 [.var 3, .var 6])]
theorem max2_nat (a b : Nat) (m : Bool) (M : MH) : fnD m M .max2 [.int (a : Nat), .int (b : Nat)] = .ok (.int ((max a b : Nat) : Int)) M := by
  have e : fnD m M .max2 [.int (a : Nat), .int (b : Nat)] = .ok (.int (if (b : Int) > (a : Int) then (b : Int) else (a : Int))) M := rfl
  rw [e]
  congr 2
  by_cases h : (b : Int) > (a : Int)
  · rw [if_pos h]; omega
  · rw [if_neg h]; omega
theorem pth_add {p : List Nat} {i : Nat} {M : MH} (h : p.length + 1 ≤ lim) : binD false M .Add (pth p) (.tup [.int (i : Nat)]) = .ok (pth (p ++ [i])) M := by
  unfold pth
  rw [add_tup (by rw [List.length_map]; exact h), List.map_append]
  rfl
section
variable {M : MH} {d : Nat} {p : List Nat}
theorem loop12 {ys : List D} {all : List D} (L : ∀ x ∈ ys, ∀ q : List Nat, q.length + D.sz x ≤ lim → R.f d 11 [x, pth q] M = exR (lk x q) M) (hz : p.length + 1 + D.szs ys ≤ lim) : ∀ (n i m0 c0 : Nat) (o4 o5 o6 : Option D), i + n = ys.length → match gn (ys.drop i) i p with
    | .ok (m, b) => ∃ o4' o5' o6', forL R ⟨d, none⟩ (.one 4) all none b12 (rngL (i : Int) n) [some (.tup ys), some (pth p), some (.int (m0 : Nat)), some (.int (c0 : Nat)), o4, o5, o6] M = .nx [some (.tup ys), some (pth p), some (.int ((m0 + m : Nat) : Int)), some (.int ((max c0 b : Nat) : Int)), o4', o5', o6'] M
    | .error (q, w) => ∃ ρ', forL R ⟨d, none⟩ (.one 4) all none b12 (rngL (i : Int) n) [some (.tup ys), some (pth p), some (.int (m0 : Nat)), some (.int (c0 : Nat)), o4, o5, o6] M = .exn 0 [("path", pth q), ("word", .str w)] ρ' M
  | 0, i, m0, c0, o4, o5, o6, h => by
    rw [List.drop_of_length_le (by omega), gn]
    exact ⟨o4, o5, o6, by rw [Nat.add_zero, Nat.max_zero]; exact for_end⟩
  | n + 1, i, m0, c0, o4, o5, o6, h => by
    have hi : i < ys.length := by omega
    have g : ys[i]? = some ys[i] := List.getElem?_eq_getElem hi
    have dr : ys.drop i = ys[i] :: ys.drop (i + 1) := (List.getElem_cons_drop hi).symm
    have hs := szs_mem (List.getElem_mem hi)
    have hx := L ys[i] (List.getElem_mem hi) (p ++ [i]) (by rw [List.length_append, List.length_singleton]; omega)
    have a0 : L2.atI ys (i : Int) = some ys[i] := by rw [atI_at, g]
    have pa := pth_add (p := p) (i := i) (M := M) (by omega)
    rw [dr, gn, rngL_succ, for_step (ρ1 := [some (.tup ys), some (pth p), some (.int (m0 : Nat)), some (.int (c0 : Nat)), some (.int (i : Nat)), o5, o6]) rfl]
    have ih := loop12 (all := all) L hz n (i + 1)
    generalize ys[i] = x at *
    cases e : lk x (p ++ [i]) with
    | error qw =>
      obtain ⟨q, w⟩ := qw
      rw [e] at hx
      dsimp only [exR] at hx ⊢
      refine ⟨[some (.tup ys), some (pth p), some (.int (m0 : Nat)), some (.int (c0 : Nat)), some (.int (i : Nat)), o5, o6], ?_⟩
      have bd : R.ss ⟨d, none⟩ b12 [some (.tup ys), some (pth p), some (.int (m0 : Nat)), some (.int (c0 : Nat)), some (.int (i : Nat)), o5, o6] M = .exn 0 [("path", pth q), ("word", .str w)] [some (.tup ys), some (pth p), some (.int (m0 : Nat)), some (.int (c0 : Nat)), some (.int (i : Nat)), o5, o6] M := by
        simp -implicitDefEqProofs [b12, a0, pa, hx, lim]
      rw [bd]
    | ok ab =>
      obtain ⟨a, b⟩ := ab
      rw [e] at hx
      dsimp only [exR] at hx ⊢
      have bd : R.ss ⟨d, none⟩ b12 [some (.tup ys), some (pth p), some (.int (m0 : Nat)), some (.int (c0 : Nat)), some (.int (i : Nat)), o5, o6] M = .nx [some (.tup ys), some (pth p), some (.int ((m0 + a : Nat) : Int)), some (.int ((max c0 b : Nat) : Int)), some (.int (i : Nat)), some (.int (a : Nat)), some (.int (b : Nat))] M := by
        have mx := fun m M => max2_nat c0 b m M
        have sm : (m0 : Int) + (a : Int) = ((m0 + a : Nat) : Int) := by omega
        generalize ((max c0 b : Nat) : Int) = X at *
        generalize ((m0 + a : Nat) : Int) = Y at *
        simp -implicitDefEqProofs [b12, a0, pa, hx, lim, bindG, setAll, augD, mx, sm]
      have z : (i : Int) + 1 = ((i + 1 : Nat) : Int) := by omega
      rw [bd, z]
      have ih2 := ih (m0 + a) (max c0 b) (some (.int (i : Nat))) (some (.int (a : Nat))) (some (.int (b : Nat))) (by omega)
      cases e2 : gn (ys.drop (i + 1)) (i + 1) p with
      | error qw =>
        obtain ⟨q, w⟩ := qw
        rw [e2] at ih2
        exact ih2
      | ok mc =>
        obtain ⟨m, c⟩ := mc
        rw [e2] at ih2
        obtain ⟨o4', o5', o6', q⟩ := ih2
        refine ⟨o4', o5', o6', ?_⟩
        rw [← Nat.add_assoc, ← Nat.max_assoc]
        exact q
theorem gone_of {ys : List D} (hM : Cl M) (L : ∀ x ∈ ys, ∀ q : List Nat, q.length + D.sz x ≤ lim → R.f d 11 [x, pth q] M = exR (lk x q) M) (hz : p.length + 1 + D.szs ys ≤ lim) : R.f (d + 1) 12 [.tup ys, pth p] M = exR (gn ys 0 p) M := by
  have hl := len_szs ys
  have key := loop12 (all := rngL 0 ys.length) L hz ys.length 0 0 0 none none none (Nat.zero_add _)
  rw [List.drop_zero] at key
  have rg := rng1_nat (n := ys.length) (by omega)
  have fin : ∀ r : D, D.und 0 r = true → endF true M.length (.rt r M) = .ok r M := fun r h => endF_vC h (by simp) hM
  rw [call_eq (t := f_12) rfl rfl]
  have eb : f_12.body = [.set 2 (.con (.int 0)), .set 3 (.con (.int 0)), .for (.one 4) (.rng1 (.fn false .len [.var 0])) b12, .ret (.tup [.var 2, .var 3])] := rfl
  show endF true M.length (R.ss ⟨d, none⟩ f_12.body [some (.tup ys), some (pth p), none, none, none, none, none] M) = _
  rw [eb]
  have z0 : ((0 : Nat) : Int) = 0 := rfl
  cases e : gn ys 0 p with
  | error qw =>
    obtain ⟨q, w⟩ := qw
    rw [e] at key
    obtain ⟨ρ', k⟩ := key
    rw [z0] at k
    have pu := bad_end (p := q) (w := w) (M := M) (M' := M) (ρ := ρ') (by simp) hM
    dsimp only [exR]
    rw [← pu]
    simp -implicitDefEqProofs [rg]
    rw [k]
    rfl
  | ok mb =>
    obtain ⟨m, b⟩ := mb
    rw [e] at key
    obtain ⟨o4, o5, o6, k⟩ := key
    rw [z0, Nat.zero_add, Nat.zero_max] at k
    dsimp only [exR]
    rw [← fin (.tup [.int (m : Nat), .int (b : Nat)]) rfl]
    simp -implicitDefEqProofs [rg]
    rw [k]
    simp -implicitDefEqProofs [lim]
theorem in_pt {s : List Nat} {M : MH} : cmpD M .In (.str s) (.tup [.str sPACK, .str sTURN]) = some (decide (s = sPACK) || decide (s = sTURN)) := by
  have e1 : cmpD M .In (.str s) (.tup [.str sPACK, .str sTURN]) = some ((sPACK == s) || ((sTURN == s) || false)) := by
    match s with
    | [] => rfl
    | [c] => rfl
    | c :: c' :: r => rfl
  rw [e1]
  have h1 : (sPACK == s) = decide (s = sPACK) := by rw [Bool.eq_iff_iff, beq_iff_eq, decide_eq_true_eq, eq_comm]
  have h2 : (sTURN == s) = decide (s = sTURN) := by rw [Bool.eq_iff_iff, beq_iff_eq, decide_eq_true_eq, eq_comm]
  rw [h1, h2, Bool.or_false]
theorem i1 {M : MH} : cmpD M .In (.str sTHREAD) (.tup [.str sPACK, .str sTURN]) = some false := rfl
theorem i2 {M : MH} : cmpD M .In (.str sPACK) (.tup [.str sPACK, .str sTURN]) = some true := rfl
theorem i3 {M : MH} : cmpD M .In (.str sTURN) (.tup [.str sPACK, .str sTURN]) = some true := rfl
theorem i4 {M : MH} : cmpD M .In (.str sTHROW) (.tup [.str sPACK, .str sTURN]) = some false := rfl
theorem i5 {M : MH} : cmpD M .In (.str sREP) (.tup [.str sPACK, .str sTURN]) = some false := rfl
theorem look_ok (hM : Cl M) : ∀ (k : Nat) {x : D} {p : List Nat} {d : Nat}, dpx x ≤ k → k + 6 < d → p.length + D.sz x ≤ lim → R.f d 11 [x, pth p] M = exR (lk x p) M := by
  intro k
  induction k using Nat.strongRecOn with
  | ind k ih =>
    intro x p d hk hd hz
    obtain ⟨d, rfl⟩ : ∃ e, d = e + 1 := ⟨d - 1, by omega⟩
    have bd : ∀ (w : List Nat) (ρ : LX.Env), endF true M.length (.exn 0 [("path", pth p), ("word", .str w)] ρ M) = bad p w M := fun w ρ => bad_end (by simp) hM
    have fin : ∀ r : D, D.und 0 r = true → endF true M.length (.rt r M) = .ok r M := fun r h => endF_vC h (by simp) hM
    have w6 := word6_ok (x := x) (p := p) (d := d) hM (by omega)
    rw [call_eq (t := f_11) rfl rfl]
    show endF true M.length (R.ss ⟨d, none⟩ f_11.body [some x, some (pth p), none, none] M) = _
    cases hs : shp x with
    | false =>
      rw [hs] at w6
      rw [lk_bad (wd_no hs)]
      dsimp only [exR]
      rw [← bd wWORD [some x, some (pth p), none, none]]
      rw [if_neg (by decide)] at w6
      simp -implicitDefEqProofs [f_11, i1, i2, i3, i4, i5, w6]
    | true =>
      rw [hs, if_pos rfl] at w6
      rcases shp_cases hs with ⟨s, a, b, rfl, l3, ho⟩ | rfl
      · have sz : D.sz (.tup [.str s, a, b]) = 1 + (1 + (D.sz a + (D.sz b + 0))) := rfl
        have e3 : wd (.tup [.str s, a, b]) = wd3 s a b := by
          show (if lenOf s = 3 then wd3 s a b else some wWORD) = _
          rw [if_pos l3]
        rcases ho with rfl | rfl | rfl | rfl
        · have t := thread_ok (s := sTHREAD) (a := a) (b := b) (p := p) (d := d) hM (by omega)
          have e4 : wd3 sTHREAD a b = if lowB a then (if colB b then none else some wCOL) else some wTAB := rfl
          cases la : lowB a with
          | false =>
            rw [la, if_neg (by decide)] at t e4
            rw [lk_bad (e3.trans e4)]
            dsimp only [exR]
            rw [← bd wTAB [some (.tup [.str sTHREAD, a, b]), some (pth p), none, none]]
            simp -implicitDefEqProofs [f_11, i1, i2, i3, i4, i5, w6, atI_0, t]
          | true =>
            rw [la, if_pos rfl] at t e4
            cases cb : colB b with
            | false =>
              rw [cb, if_neg (by decide)] at t e4
              rw [lk_bad (e3.trans e4)]
              dsimp only [exR]
              rw [← bd wCOL [some (.tup [.str sTHREAD, a, b]), some (pth p), none, none]]
              simp -implicitDefEqProofs [f_11, i1, i2, i3, i4, i5, w6, atI_0, t]
            | true =>
              rw [cb, if_pos rfl] at t e4
              rw [lk_leaf (e3.trans e4) (fun a ys h => by cases h)]
              dsimp only [exR]
              rw [← fin (.tup [.int ((1 : Nat) : Int), .int ((0 : Nat) : Int)]) rfl]
              simp -implicitDefEqProofs [f_11, i1, i2, i3, i4, i5, w6, atI_0, t, lim]
        · have t := pack_ok (s := sPACK) (a := a) (b := b) (p := p) (d := d) (.inl rfl) hM (by omega) (by omega)
          cases e4 : wd3 sPACK a b with
          | some w =>
            rw [e4] at t
            dsimp only at t
            rw [lk_bad (e3.trans e4)]
            dsimp only [exR]
            rw [← bd w [some (.tup [.str sPACK, a, b]), some (pth p), none, none]]
            simp -implicitDefEqProofs [f_11, i1, i2, i3, i4, i5, w6, atI_0, t, lim]
          | none =>
            rw [e4] at t
            dsimp only at t
            rw [lk_leaf (e3.trans e4) (fun a ys h => by cases h)]
            dsimp only [exR]
            rw [← fin (.tup [.int ((1 : Nat) : Int), .int ((0 : Nat) : Int)]) rfl]
            simp -implicitDefEqProofs [f_11, i1, i2, i3, i4, i5, w6, atI_0, t, lim]
        · have t := pack_ok (s := sTURN) (a := a) (b := b) (p := p) (d := d) (.inr rfl) hM (by omega) (by omega)
          cases e4 : wd3 sTURN a b with
          | some w =>
            rw [e4] at t
            dsimp only at t
            rw [lk_bad (e3.trans e4)]
            dsimp only [exR]
            rw [← bd w [some (.tup [.str sTURN, a, b]), some (pth p), none, none]]
            simp -implicitDefEqProofs [f_11, i1, i2, i3, i4, i5, w6, atI_0, t, lim]
          | none =>
            rw [e4] at t
            dsimp only at t
            rw [lk_leaf (e3.trans e4) (fun a ys h => by cases h)]
            dsimp only [exR]
            rw [← fin (.tup [.int ((1 : Nat) : Int), .int ((0 : Nat) : Int)]) rfl]
            simp -implicitDefEqProofs [f_11, i1, i2, i3, i4, i5, w6, atI_0, t, lim]
        · have t := repeat_ok (a := a) (b := b) (p := p) (d := d) hM (by omega)
          cases e4 : wd3 sREP a b with
          | some w =>
            rw [e4] at t
            dsimp only at t
            rw [lk_bad (e3.trans e4)]
            dsimp only [exR]
            rw [← bd w [some (.tup [.str sREP, a, b]), some (pth p), none, none]]
            simp -implicitDefEqProofs [f_11, i1, i2, i3, i4, i5, w6, atI_0, t, lim]
          | none =>
            rw [e4] at t
            dsimp only at t
            have eb : ∃ ys, b = .tup ys := by
              have e5 : (if manyB a then repB b else some wMANY) = none := e4
              cases b with
              | tup ys => exact ⟨ys, rfl⟩
              | _ =>
                exfalso
                split at e5 <;> cases e5
            obtain ⟨ys, rfl⟩ := eb
            rw [lk_rep (e3.trans e4)]
            have d2 : dpx (.tup [.str sREP, a, .tup ys]) = 1 + max 0 (max (dpx a) (max (1 + dps ys) 0)) := by simp [dpx, dps]
            obtain ⟨d, rfl⟩ : ∃ e, d = e + 1 := ⟨d - 1, by omega⟩
            have sy : D.sz (.tup ys) = 1 + D.szs ys := rfl
            have go := gone_of (ys := ys) (p := p) (d := d) hM (fun y hy q hq => ih (k - 2) (by omega) (by have := dps_mem hy; omega) (by omega) hq) (by omega)
            cases eg : gn ys 0 p with
            | error qw =>
              obtain ⟨q, w⟩ := qw
              rw [eg] at go
              dsimp only [exR, bump] at go ⊢
              rw [← bad_end (p := q) (w := w) (M := M) (M' := M) (ρ := [some (.tup [.str sREP, a, .tup ys]), some (pth p), none, none]) (by simp) hM]
              simp -implicitDefEqProofs [f_11, i1, i2, i3, i4, i5, w6, atI_0, atI_2, t, go, lim]
            | ok mb =>
              obtain ⟨m, b⟩ := mb
              rw [eg] at go
              dsimp only [exR, bump] at go ⊢
              rw [← fin (.tup [.int ((1 + m : Nat) : Int), .int ((1 + b : Nat) : Int)]) rfl]
              have s1 : (1 : Int) + (m : Int) = ((1 + m : Nat) : Int) := by omega
              have s2 : (1 : Int) + (b : Int) = ((1 + b : Nat) : Int) := by omega
              generalize ((1 + m : Nat) : Int) = X at *
              generalize ((1 + b : Nat) : Int) = Y at *
              simp -implicitDefEqProofs [f_11, i1, i2, i3, i4, i5, w6, atI_0, atI_2, t, go, lim, bindG, setAll, s1, s2]
      · rw [lk_leaf rfl (fun a ys h => by cases h)]
        dsimp only [exR]
        rw [← fin (.tup [.int ((1 : Nat) : Int), .int ((0 : Nat) : Int)]) rfl]
        simp -implicitDefEqProofs [f_11, i1, i2, i3, i4, i5, w6, atI_0, lim]
end
end LK

set_option Elab.async false
set_option linter.all false
set_option maxRecDepth 1000000
set_option maxHeartbeats 4000000
namespace LK
open LX
abbrev sTOLD : List Nat := [116, 111, 108, 100]
abbrev sBAD : List Nat := [98, 97, 100]
def chk : D → Ex
  | .tup ys => match gn ys 0 [] with
    | .error e => .error e
    | .ok (m, b) => if 2000 < m ∨ 20 < b then .error ([], wSIZE) else .ok (m, b)
  | _ => .error ([], wSHAPE)
section
variable {M : MH} {d k : Nat} {x : D}
theorem gone_ok {ys : List D} {p : List Nat} (hM : Cl M) (hk : dps ys ≤ k) (hd : k + 7 < d) (hz : p.length + 1 + D.szs ys ≤ lim) : R.f d 12 [.tup ys, pth p] M = exR (gn ys 0 p) M := by
  obtain ⟨d, rfl⟩ : ∃ e, d = e + 1 := ⟨d - 1, by omega⟩
  exact gone_of hM (fun y hy q hq => look_ok hM k (by have := dps_mem hy; omega) (by omega) hq) hz
theorem not_tup {x : D} (h : ¬ ∃ ys, x = .tup ys) : isKind [.tuple] x = false ∧ chk x = .error ([], wSHAPE) := by
  cases x with
  | tup ys => exact absurd ⟨ys, rfl⟩ h
  | _ => exact ⟨rfl, rfl⟩
theorem check_ok (hM : Cl M) (hk : dpx x ≤ k) (hd : k + 8 < d) (hz : D.sz x + 1 ≤ lim) : R.f d 13 [x] M = match chk x with
    | .ok (m, _) => .ok (.int (m : Nat)) M
    | .error (q, w) => bad q w M := by
  obtain ⟨d, rfl⟩ : ∃ e, d = e + 1 := ⟨d - 1, by omega⟩
  have bd : ∀ (q w : List Nat) (ρ : LX.Env), endF true M.length (.exn 0 [("path", pth q), ("word", .str w)] ρ M) = bad q w M := fun q w ρ => bad_end (by simp) hM
  have pe : pth [] = .tup [] := rfl
  rw [call_eq (t := f_13) rfl rfl]
  show endF true M.length (R.ss ⟨d, none⟩ f_13.body [some x, none, none] M) = _
  by_cases ht : ∃ ys, x = .tup ys
  · obtain ⟨ys, rfl⟩ := ht
    have sy : D.sz (.tup ys) = 1 + D.szs ys := rfl
    have dy : dpx (.tup ys) = 1 + dps ys := by rw [dpx]
    have go : R.f d 12 [.tup ys, .tup []] M = exR (gn ys 0 []) M := gone_ok (p := []) hM (by omega : dps ys ≤ k) (by omega) (by simp; omega)
    have ec : chk (.tup ys) = match gn ys 0 [] with
      | .error e => .error e
      | .ok (m, b) => if 2000 < m ∨ 20 < b then .error ([], wSIZE) else .ok (m, b) := rfl
    rw [ec]
    cases eg : gn ys 0 [] with
    | error qw =>
      obtain ⟨q, w⟩ := qw
      rw [eg] at go
      dsimp only [exR] at go ⊢
      simp -implicitDefEqProofs [f_13, isKind, kindOf, go, lim]
      exact bd q w _
    | ok mb =>
      obtain ⟨m, b⟩ := mb
      rw [eg] at go
      dsimp only [exR] at go ⊢
      by_cases h1 : 2000 < m
      · rw [if_pos (.inl h1)]
        have h1' : (2000 : Int) < (m : Int) := by omega
        simp -implicitDefEqProofs [f_13, isKind, kindOf, go, lim, bindG, setAll, h1', xc0, zipF]
        exact bd [] wSIZE _
      · have h1' : ¬ (2000 : Int) < (m : Int) := by omega
        by_cases h2 : 20 < b
        · rw [if_pos (.inr h2)]
          have h2' : (20 : Int) < (b : Int) := by omega
          simp -implicitDefEqProofs [f_13, isKind, kindOf, go, lim, bindG, setAll, h1', h2', xc0, zipF]
          exact bd [] wSIZE _
        · rw [if_neg (fun h => h.elim h1 h2)]
          have h2' : ¬ (20 : Int) < (b : Int) := by omega
          simp -implicitDefEqProofs [f_13, isKind, kindOf, go, lim, bindG, setAll, h1', h2']
          exact endF_vC rfl (by simp) hM
  · obtain ⟨h1, h2⟩ := not_tup ht
    rw [h2]
    simp -implicitDefEqProofs [f_13, h1, lim, xc0, zipF]
    exact bd [] wSHAPE _
def isOk : Ex → Bool
  | .ok _ => true
  | .error _ => false
theorem iscode_ok (hM : Cl M) (hk : dpx x ≤ k) (hd : k + 9 < d) (hz : D.sz x + 1 ≤ lim) : R.f d 14 [x] M = .ok (.bl (isOk (chk x))) M := by
  obtain ⟨d, rfl⟩ : ∃ e, d = e + 1 := ⟨d - 1, by omega⟩
  have c := check_ok (d := d) hM hk (by omega) hz
  have fin : ∀ k, endF true M.length (.rt (.bl k) M) = .ok (.bl k) M := fun k => endF_vC rfl (by simp) hM
  rw [call_eq (t := f_14) rfl rfl]
  cases e : chk x with
  | error qw =>
    obtain ⟨q, w⟩ := qw
    rw [e] at c
    dsimp only at c
    simp -implicitDefEqProofs [f_14, startE, c, lv, clause, xc0, slotIn, gone, SRes.map]
    exact fin false
  | ok mb =>
    obtain ⟨m, b⟩ := mb
    rw [e] at c
    dsimp only at c
    simp -implicitDefEqProofs [f_14, startE, c]
    exact fin true
def tld : Ex → D
  | .ok (m, _) => .tup [.str sTOLD, .int (m : Nat)]
  | .error (q, w) => .tup [.str sBAD, pth q, .str w]
theorem lkw (a b : D) : List.lookup ("word" : PySem.Str) [("path", a), ("word", b)] = some b := rfl
theorem tld_und (n : Nat) (r : Ex) : D.und n (tld r) = true := by
  cases r with
  | ok mb => rfl
  | error qw =>
    obtain ⟨q, w⟩ := qw
    show (true && (D.und n (pth q) && (true && true))) = true
    rw [pth_und]
    rfl
theorem told_ok (hM : Cl M) (hk : dpx x ≤ k) (hd : k + 9 < d) (hz : D.sz x + 1 ≤ lim) : R.f d 28 [x] M = .ok (tld (chk x)) M := by
  obtain ⟨d, rfl⟩ : ∃ e, d = e + 1 := ⟨d - 1, by omega⟩
  have c := check_ok (d := d) hM hk (by omega) hz
  have fin : endF true M.length (.rt (tld (chk x)) M) = .ok (tld (chk x)) M := endF_vC (tld_und 0 _) (by simp) hM
  rw [call_eq (t := f_28) rfl rfl, ← fin]
  cases e : chk x with
  | error qw =>
    obtain ⟨q, w⟩ := qw
    rw [e] at c
    dsimp only [tld] at c ⊢
    simp -implicitDefEqProofs [f_28, startE, c, lv, clause, xc0, slotIn, gone, SRes.map, lim, lkw]
  | ok mb =>
    obtain ⟨m, b⟩ := mb
    rw [e] at c
    dsimp only [tld] at c ⊢
    simp -implicitDefEqProofs [f_28, startE, c, lim]
theorem chk_gn {ys : List D} {m b : Nat} (h : chk (.tup ys) = .ok (m, b)) : gn ys 0 [] = .ok (m, b) := by
  have ec : chk (.tup ys) = match gn ys 0 [] with
    | .error e => .error e
    | .ok (m, b) => if 2000 < m ∨ 20 < b then .error ([], wSIZE) else .ok (m, b) := rfl
  rw [ec] at h
  cases e : gn ys 0 [] with
  | error e2 => rw [e] at h; cases h
  | ok mb =>
    obtain ⟨m', b'⟩ := mb
    rw [e] at h
    dsimp only at h
    split at h
    · cases h
    · exact h
theorem chk_tup {m b : Nat} (h : chk x = .ok (m, b)) : ∃ ys, x = .tup ys := by
  cases x with
  | tup ys => exact ⟨ys, rfl⟩
  | _ => cases h
theorem size_ok {m b : Nat} (hM : Cl M) (hk : dpx x ≤ k) (hd : k + 9 < d) (hz : D.sz x + 1 ≤ lim) (h : chk x = .ok (m, b)) : R.f d 15 [x] M = .ok (.int (m : Nat)) M ∧ R.f d 16 [x] M = .ok (.int (b : Nat)) M := by
  obtain ⟨d, rfl⟩ : ∃ e, d = e + 1 := ⟨d - 1, by omega⟩
  obtain ⟨ys, rfl⟩ := chk_tup h
  have sy : D.sz (.tup ys) = 1 + D.szs ys := rfl
  have dy : dpx (.tup ys) = 1 + dps ys := by rw [dpx]
  have go : R.f d 12 [.tup ys, .tup []] M = exR (gn ys 0 []) M := gone_ok (p := []) hM (by omega : dps ys ≤ k) (by omega) (by simp; omega)
  rw [chk_gn h] at go
  dsimp only [exR] at go
  constructor
  · rw [call_eq (t := f_15) rfl rfl]
    simp -implicitDefEqProofs [f_15, startE, go, lim, atI_0]
    exact endF_vC rfl (by simp) hM
  · rw [call_eq (t := f_16) rfl rfl]
    simp -implicitDefEqProofs [f_16, startE, go, lim, atI_1]
    exact endF_vC rfl (by simp) hM
end
end LK

set_option Elab.async false
set_option linter.all false
set_option maxRecDepth 1000000
set_option maxHeartbeats 4000000
namespace LK
open LX
/-! ### the law's word -/
def e5 : E := .lst false [.tup [.con (.str [116, 104, 114, 101, 97, 100]), .con (.int 3)], .tup [.con (.str [112, 97, 99, 107]), .con (.int 3)], .tup [.con (.str [116, 117, 114, 110]), .con (.int 3)], .tup [.con (.str [116, 104, 114, 111, 119]), .con (.int 1)], .tup [.con (.str [114, 101, 112, 101, 97, 116]), .con (.int 3)]]
def lcC : E := .lc false [3] (.one 3) (.ix (.var 0) (.con (.int 2))) (some (.cmp .NotIn (.var 3) (.con (.str [65, 66, 67, 68, 69, 70, 71, 72, 73, 74, 75, 76, 77, 78, 79, 80, 81, 82, 83, 84, 85, 86, 87, 88, 89, 90])))) (.var 3)
def lcT : E := .lc false [4] (.one 4) (.var 1) (some (.not (.truth (.call 22 [.var 4, .con (.int 0), .con (.int 23)])))) (.var 4)
def lcK : E := .lc false [2] (.one 2) (.rng2 (.con (.int 1)) (.fn false .len [.var 1])) (some (.cmp .GtE (.ix (.var 1) (.bin false .Sub (.var 2) (.con (.int 1)))) (.ix (.var 1) (.var 2)))) (.var 2)
def w1 : S := .ite (.or (.not (.isi [.tuple] (.var 0))) (.or (.cmp .Eq (.fn false .len [.var 0]) (.con (.int 0))) (.or (.not (.isi [.str] (.ix (.var 0) (.con (.int 0))))) (.cmp .NotIn (.tup [.ix (.var 0) (.con (.int 0)), .fn false .len [.var 0]]) e5)))) [.ret (.con (.str [119, 111, 114, 100]))] []
def w2 : S := .ite (.cmp .Eq (.ix (.var 0) (.con (.int 0))) (.con (.str [116, 104, 114, 101, 97, 100]))) [.ite (.not (.truth (.call 22 [.ix (.var 0) (.con (.int 1)), .con (.int 0), .con (.int 23)]))) [.ret (.con (.str [116, 97, 98, 108, 101, 116]))] [], .ite (.or (.not (.isi [.str] (.ix (.var 0) (.con (.int 2))))) (.or (.cmp .NotEq (.fn false .len [.ix (.var 0) (.con (.int 2))]) (.con (.int 4))) (.cmp .Gt (.fn false .len [lcC]) (.con (.int 0))))) [.ret (.con (.str [99, 111, 108, 111, 117, 114, 115]))] []] []
def w3 : S := .ite (.and (.cmp .In (.ix (.var 0) (.con (.int 0))) (.tup [.con (.str [112, 97, 99, 107]), .con (.str [116, 117, 114, 110])])) (.not (.truth (.call 22 [.ix (.var 0) (.con (.int 1)), .con (.int 0), .con (.int 23)])))) [.ret (.con (.str [112, 97, 99, 107]))] []
def w4 : S := .ite (.cmp .Eq (.ix (.var 0) (.con (.int 0))) (.con (.str [112, 97, 99, 107]))) [.set 1 (.ix (.var 0) (.con (.int 2))), .ite (.or (.not (.isi [.tuple] (.var 1))) (.or (.cmp .Eq (.fn false .len [.var 1]) (.con (.int 0))) (.cmp .Gt (.fn false .len [lcT]) (.con (.int 0))))) [.ret (.con (.str [116, 97, 98, 108, 101, 116, 115]))] [], .ite (.cmp .Gt (.fn false .len [lcK]) (.con (.int 0))) [.ret (.con (.str [116, 97, 98, 108, 101, 116, 115]))] []] []
def w5 : S := .ite (.and (.cmp .Eq (.ix (.var 0) (.con (.int 0))) (.con (.str [116, 117, 114, 110]))) (.or (.not (.isi [.str] (.ix (.var 0) (.con (.int 2))))) (.cmp .NotIn (.ix (.var 0) (.con (.int 2))) (.tup [.con (.str [70]), .con (.str [66])])))) [.ret (.con (.str [116, 117, 114, 110]))] []
def w6 : S := .ite (.cmp .Eq (.ix (.var 0) (.con (.int 0))) (.con (.str [114, 101, 112, 101, 97, 116]))) [.ite (.not (.truth (.call 22 [.ix (.var 0) (.con (.int 1)), .con (.int 2), .con (.int 40)]))) [.ret (.con (.str [109, 97, 110, 121]))] [], .ite (.not (.isi [.tuple] (.ix (.var 0) (.con (.int 2))))) [.ret (.con (.str [115, 104, 97, 112, 101]))] [], .ite (.cmp .Eq (.fn false .len [.ix (.var 0) (.con (.int 2))]) (.con (.int 0))) [.ret (.con (.str [101, 109, 112, 116, 121]))] []] []
def w7 : S := .ret (.con .non)
theorem body23 : f_23.body = [w1, w2, w3, w4, w5, w6, w7] := rfl
def L5 : List D := [.tup [.str sTHREAD, .int 3], .tup [.str sPACK, .int 3], .tup [.str sTURN, .int 3], .tup [.str sTHROW, .int 1], .tup [.str sREP, .int 3]]
theorem rng2_len (n : Nat) (hz : n ≤ lim) : rng2D (.int 1) (.int (n : Nat)) = some (rngL 1 (n - 1)) := by
  have hlim : lim = 16777216 := rfl
  have f1 : fits 1 = true := fits_nat (n := 1) (by rw [hlim]; omega)
  have f2 := fits_nat (n := n) hz
  have e : rng2D (.int 1) (.int (n : Nat)) = if (fits 1 && fits (n : Int)) = true then some (rngL 1 ((n : Int) - 1).toNat) else none := rfl
  have t : ((n : Int) - 1).toNat = n - 1 := by omega
  rw [e]
  rw [f1]
  rw [f2]
  rw [t]
  rfl
theorem eqv2 (a s : List Nat) (k n : Int) : PySem.PyData.eqv (.tuple [.str ⟨a.toArray⟩, .int k]) (.tuple [.str ⟨s.toArray⟩, .int n]) = ((a == s) && (k == n)) := by
  have e : PySem.PyData.eqv (.tuple [.str ⟨a.toArray⟩, .int k]) (.tuple [.str ⟨s.toArray⟩, .int n]) = (((⟨a.toArray⟩ : PySem.Str) == ⟨s.toArray⟩) && ((k == n) && true)) := rfl
  rw [e, arr_beq, Bool.and_true]
theorem sh5 : PySem.SeqAt.shaped (.list [.tuple [.str ⟨sTHREAD.toArray⟩, .int 3], .tuple [.str ⟨sPACK.toArray⟩, .int 3], .tuple [.str ⟨sTURN.toArray⟩, .int 3], .tuple [.str ⟨sTHROW.toArray⟩, .int 1], .tuple [.str ⟨sREP.toArray⟩, .int 3]]) = true := by decide +kernel
theorem sh2 {s : List Nat} {n : Int} (hs : (s.all fun c => decide (c < 1114112)) = true) : PySem.SeqAt.shaped (.tuple [.str ⟨s.toArray⟩, .int n]) = true := by
  have e : PySem.SeqAt.shaped (.tuple [.str ⟨s.toArray⟩, .int n]) = ((PySem.PyData.strOk ⟨s.toArray⟩ && (true && true)) && decide (max 0 (max 0 0) + 1 ≤ 64)) := rfl
  rw [e]
  have e2 : PySem.PyData.strOk ⟨s.toArray⟩ = s.toArray.all fun c => decide (c < 0x110000) := rfl
  rw [e2]
  simpa using hs
theorem notin5 {s : List Nat} {n : Nat} {M : MH} (hn : 1 ≤ n) (hs : (s.all fun c => decide (c < 1114112)) = true) : cmpD M .NotIn (.tup [.str s, .int (n : Nat)]) (.tl L5) = some (!decide (lenOf s = n)) := by
  have e : cmpD M .NotIn (.tup [.str s, .int (n : Nat)]) (.tl L5) = (if PySem.SeqAt.shaped (.tuple [.str ⟨s.toArray⟩, .int (n : Nat)]) && PySem.SeqAt.shaped (.list [.tuple [.str ⟨sTHREAD.toArray⟩, .int 3], .tuple [.str ⟨sPACK.toArray⟩, .int 3], .tuple [.str ⟨sTURN.toArray⟩, .int 3], .tuple [.str ⟨sTHROW.toArray⟩, .int 1], .tuple [.str ⟨sREP.toArray⟩, .int 3]]) then some ([.tuple [.str ⟨sTHREAD.toArray⟩, .int 3], .tuple [.str ⟨sPACK.toArray⟩, .int 3], .tuple [.str ⟨sTURN.toArray⟩, .int 3], .tuple [.str ⟨sTHROW.toArray⟩, .int 1], .tuple [.str ⟨sREP.toArray⟩, .int 3]].any fun z => PySem.PyData.eqv z (.tuple [.str ⟨s.toArray⟩, .int (n : Nat)])) else none).map not := rfl
  rw [e, if_pos (by rw [sh2 hs, sh5]; rfl)]
  simp only [List.any_cons, List.any_nil, eqv2, Option.map_some]
  congr 1
  congr 1
  have ne : ∀ (a b : List Nat), a ≠ b → (a == b) = false := fun a b h => beq_eq_false_iff_ne.mpr h
  have bi : ∀ k : Nat, (((k : Nat) : Int) == (n : Int)) = decide (k = n) := fun k => by
    rw [Bool.eq_iff_iff, beq_iff_eq, decide_eq_true_eq]
    omega
  have b3 : ((3 : Int) == (n : Int)) = decide (3 = n) := bi 3
  have b1 : ((1 : Int) == (n : Int)) = decide (1 = n) := bi 1
  rw [b3, b1]
  by_cases h1 : s = sTHREAD
  · subst h1; show (decide (3 = n) || _) = decide (3 = n); simp [sTHREAD]
  by_cases h2 : s = sPACK
  · subst h2; show _ = decide (3 = n); simp
  by_cases h3 : s = sTURN
  · subst h3; show _ = decide (3 = n); simp
  by_cases h4 : s = sTHROW
  · subst h4; show _ = decide (1 = n); simp
  by_cases h5 : s = sREP
  · subst h5; show _ = decide (3 = n); simp
  rw [ne _ _ (Ne.symm h1), ne _ _ (Ne.symm h2), ne _ _ (Ne.symm h3), ne _ _ (Ne.symm h4), ne _ _ (Ne.symm h5)]
  have e0 : lenOf s = 0 := by
    unfold lenOf
    rw [if_neg h1, if_neg h2, if_neg h3, if_neg h4, if_neg h5]
  rw [e0, decide_eq_false (show ¬ 0 = n by omega)]
  simp
section
variable {M : MH} {d : Nat} {x a b : D}
theorem e5_ok {c : Cf} {ρ : LX.Env} : R.e c e5 ρ M = .ok (.tl L5) M := by
  simp -implicitDefEqProofs [e5, L5, lim]
theorem fil0 {α : Type} {l : List α} {q : α → Bool} : ((l.filter q).length : Nat) = 0 ↔ ∀ x ∈ l, q x = false := by
  rw [List.length_eq_zero_iff, List.filter_eq_nil_iff]
  exact ⟨fun h x hx => by simpa using h x hx, fun h x hx => by simpa using h x hx⟩
def qC : D → Bool
  | .str [c] => !isUP c
  | _ => false
def qK (ns : List Int) : D → Bool
  | .int k => decide (ns.getD k.toNat 0 ≤ ns.getD (k.toNat - 1) 0)
  | _ => false
theorem lcC_ok {z : List Nat} (hz : z.length ≤ lim) : ∃ l : List D, (l = [] ↔ (z.all fun c => isUP c) = true) ∧ R.e ⟨d, none⟩ lcC [some (.tup [.str sTHREAD, a, .str z]), none, none, none, none] M = .ok (.tl l) M := by
  have lc := lc_fil (P := pg) (c := ⟨d, none⟩) (g := .one 3) (all := z.map fun c => .str [c]) (t := .cmp .NotIn (.var 3) (.con (.str UP))) (e := .var 3) (ρ := [some (.tup [.str sTHREAD, a, .str z]), none, none, none, none]) id qC (l := z.map fun c => .str [c]) (acc := []) (M := M) (fun y hy => by
    obtain ⟨c, _, rfl⟩ := List.mem_map.mp hy
    exact ⟨_, rfl, by simp -implicitDefEqProofs [in_up, qC], fun _ => by simp -implicitDefEqProofs⟩) (by simp; exact hz)
  rw [List.nil_append, List.map_id] at lc
  refine ⟨(z.map fun c => D.str [c]).filter qC, ?_, ?_⟩
  rotate_left
  · unfold lcC
    rw [e_lc]
    have it : itE R ⟨d, none⟩ (.ix (.var 0) (.con (.int 2))) [some (.tup [.str sTHREAD, a, .str z]), none, none, none, none] M = .ok (z.map fun c => .str [c], none) M := by
      simp -implicitDefEqProofs [atI_2]
    rw [it, bind_ok]
    dsimp only
    rw [show wipeE [some (.tup [.str sTHREAD, a, .str z]), none, none, none, none] [3] = [some (.tup [.str sTHREAD, a, .str z]), none, none, none, none] from rfl, lc]
    rfl
  · rw [List.filter_eq_nil_iff, List.all_eq_true]
    constructor
    · intro h c hc
      have := h (.str [c]) (List.mem_map.mpr ⟨c, hc, rfl⟩)
      simpa [qC] using this
    · intro h y hy
      obtain ⟨c, hc, rfl⟩ := List.mem_map.mp hy
      have := h c hc
      simpa [qC] using this
theorem lcT_ok {ys : List D} (hM : Cl M) (hd : 0 < d) (hz : ys.length ≤ lim) : ∃ l : List D, (l = [] ↔ ys.all lowB = true) ∧ R.e ⟨d, none⟩ lcT [some (.tup [.str sPACK, a, .tup ys]), some (.tup ys), none, none, none] M = .ok (.tl l) M := by
  have lc := lc_fil (P := pg) (c := ⟨d, none⟩) (g := .one 4) (all := ys) (t := .not (.truth (.call 22 [.var 4, .con (.int 0), .con (.int 23)]))) (e := .var 4) (ρ := [some (.tup [.str sPACK, a, .tup ys]), some (.tup ys), none, none, none]) id (fun y => !lowB y) (l := ys) (acc := []) (M := M) (fun y hy => by
    have lo := llow_ok (x := y) hM hd
    exact ⟨_, rfl, by simp -implicitDefEqProofs [lo], fun _ => by simp -implicitDefEqProofs⟩) (by simp; exact hz)
  rw [List.nil_append, List.map_id] at lc
  refine ⟨ys.filter fun y => !lowB y, ?_, ?_⟩
  rotate_left
  · unfold lcT
    rw [e_lc]
    have it : itE R ⟨d, none⟩ (.var 1) [some (.tup [.str sPACK, a, .tup ys]), some (.tup ys), none, none, none] M = .ok (ys, none) M := by
      simp -implicitDefEqProofs
    rw [it, bind_ok]
    dsimp only
    rw [show wipeE [some (.tup [.str sPACK, a, .tup ys]), some (.tup ys), none, none, none] [4] = [some (.tup [.str sPACK, a, .tup ys]), some (.tup ys), none, none, none] from rfl, lc]
    rfl
  · rw [List.filter_eq_nil_iff, List.all_eq_true]
    exact ⟨fun h y hy => by simpa using h y hy, fun h y hy => by simpa using h y hy⟩
theorem lcK_ok {ns : List Int} (hz : ns.length ≤ lim) : ∃ l : List D, (l = [] ↔ inc ns = true) ∧ R.e ⟨d, none⟩ lcK [some (.tup [.str sPACK, a, .tup (ns.map .int)]), some (.tup (ns.map .int)), none, none, none] M = .ok (.tl l) M := by
  have hlim : lim = 16777216 := rfl
  have lc := lc_fil (P := pg) (c := ⟨d, none⟩) (g := .one 2) (all := rngL 1 (ns.length - 1)) (t := .cmp .GtE (.ix (.var 1) (.bin false .Sub (.var 2) (.con (.int 1)))) (.ix (.var 1) (.var 2))) (e := .var 2) (ρ := [some (.tup [.str sPACK, a, .tup (ns.map .int)]), some (.tup (ns.map .int)), none, none, none]) id (qK ns) (l := rngL 1 (ns.length - 1)) (acc := []) (M := M) (fun y hy => by
    obtain ⟨i, hi⟩ := List.getElem?_of_mem hy
    obtain ⟨hi, rfl⟩ := rngL_get hi
    have h1 : i + 1 < ns.length := by omega
    have h0 : i < ns.length := by omega
    have e1 : (1 : Int) + (i : Int) - 1 = ((i : Nat) : Int) := by omega
    have e2 : (1 : Int) + (i : Int) = ((i + 1 : Nat) : Int) := by omega
    have a1 : L2.atI (ns.map D.int) ((i + 1 : Nat) : Int) = some (.int ns[i + 1]) := by rw [atI_at, List.getElem?_map, List.getElem?_eq_getElem h1]; rfl
    have a0 : L2.atI (ns.map D.int) ((i : Nat) : Int) = some (.int ns[i]) := by rw [atI_at, List.getElem?_map, List.getElem?_eq_getElem h0]; rfl
    refine ⟨_, rfl, ?_, fun _ => by simp -implicitDefEqProofs⟩
    have g1 : ns.getD (i + 1) 0 = ns[i + 1] := by simp [List.getD, List.getElem?_eq_getElem h1]
    have g0 : ns.getD i 0 = ns[i] := by simp [List.getD, List.getElem?_eq_getElem h0]
    have t1 : ((1 : Int) + (i : Int)).toNat = i + 1 := by omega
    dsimp only [qK]
    rw [t1, Nat.add_sub_cancel, g1, g0]
    generalize ns.map D.int = us at *
    generalize ns[i + 1] = u at *
    generalize ns[i] = v at *
    show R.e ⟨d, none⟩ _ [some (.tup [.str sPACK, a, .tup us]), some (.tup us), some (.int (1 + (i : Int))), none, none] M = _
    rw [e2]
    have e3 : ((i + 1 : Nat) : Int) - 1 = (i : Int) := by omega
    generalize ((i + 1 : Nat) : Int) = I at *
    simp -implicitDefEqProofs [e3, a1, a0]) (by rw [rngL_len]; simp; omega)
  rw [List.nil_append, List.map_id] at lc
  refine ⟨(rngL 1 (ns.length - 1)).filter (qK ns), ?_, ?_⟩
  rotate_left
  · unfold lcK
    rw [e_lc]
    have it : itE R ⟨d, none⟩ (.rng2 (.con (.int 1)) (.fn false .len [.var 1])) [some (.tup [.str sPACK, a, .tup (ns.map .int)]), some (.tup (ns.map .int)), none, none, none] M = .ok (rngL 1 (ns.length - 1), none) M := by
      have rg := rng2_len ns.length hz
      simp -implicitDefEqProofs [rg]
    rw [it, bind_ok]
    dsimp only
    rw [show wipeE [some (.tup [.str sPACK, a, .tup (ns.map .int)]), some (.tup (ns.map .int)), none, none, none] [2] = [some (.tup [.str sPACK, a, .tup (ns.map .int)]), some (.tup (ns.map .int)), none, none, none] from rfl, lc]
    rfl
  · rw [List.filter_eq_nil_iff, inc_iff]
    constructor
    · intro h k a b ha hb
      have hk : k + 1 < ns.length := (List.getElem?_eq_some_iff.mp hb).1
      have hm : D.int (1 + (k : Int)) ∈ rngL 1 (ns.length - 1) := List.mem_map.mpr ⟨k, List.mem_range.mpr (by omega), rfl⟩
      have z := h _ hm
      have t1 : ((1 : Int) + (k : Int)).toNat = k + 1 := by omega
      dsimp only [qK] at z
      rw [t1, Nat.add_sub_cancel, List.getD, List.getD, ha, hb] at z
      have z2 : ¬ b ≤ a := by simpa using z
      omega
    · intro h y hy
      obtain ⟨i, hi⟩ := List.getElem?_of_mem hy
      obtain ⟨hi, rfl⟩ := rngL_get hi
      have h1 : i + 1 < ns.length := by omega
      have h0 : i < ns.length := by omega
      have z := h i ns[i] ns[i + 1] (List.getElem?_eq_getElem h0) (List.getElem?_eq_getElem h1)
      have t1 : ((1 : Int) + (i : Int)).toNat = i + 1 := by omega
      dsimp only [qK]
      rw [t1, Nat.add_sub_cancel, List.getD, List.getD, List.getElem?_eq_getElem h0, List.getElem?_eq_getElem h1]
      have z2 : ¬ ns[i + 1] ≤ ns[i] := by omega
      simpa using z2
end
end LK

set_option Elab.async false
set_option linter.all false
set_option maxRecDepth 1000000
set_option maxHeartbeats 4000000
namespace LK
open LX
mutual
/-- no cells within, texts that are short -/
def gd : D → Bool
  | .str s => (s.all fun c => decide (c < 1114112)) && decide (s.length ≤ 1000)
  | .tup xs => gds xs
  | .tl xs => D.undAll 0 xs
  | .fl xs => D.undAll 0 xs
  | .ref _ => false
  | _ => true
def gds : List D → Bool
  | [] => true
  | x :: xs => gd x && gds xs
end
mutual
theorem gd_und : ∀ {x : D}, gd x = true → D.und 0 x = true
  | .str _, _ => rfl
  | .tup xs, h => gds_und (xs := xs) h
  | .tl _, h => h
  | .fl _, h => h
  | .ref _, h => by cases h
  | .non, _ => rfl
  | .bl _, _ => rfl
  | .int _, _ => rfl
  | .edic, _ => rfl
theorem gds_und : ∀ {xs : List D}, gds xs = true → D.undAll 0 xs = true
  | [], _ => rfl
  | x :: xs, h => by
    have h' : (gd x && gds xs) = true := h
    rw [Bool.and_eq_true] at h'
    show (D.und 0 x && D.undAll 0 xs) = true
    rw [gd_und h'.1, gds_und h'.2]
    rfl
end
theorem gds_mem : ∀ {xs : List D} {x : D}, gds xs = true → x ∈ xs → gd x = true
  | y :: ys, x, h, hx => by
    have h' : (gd y && gds ys) = true := h
    rw [Bool.and_eq_true] at h'
    rcases List.mem_cons.mp hx with rfl | hx
    · exact h'.1
    · exact gds_mem h'.2 hx
theorem gds_of : ∀ {xs : List D}, (∀ x ∈ xs, gd x = true) → gds xs = true
  | [], _ => rfl
  | x :: xs, h => by
    show (gd x && gds xs) = true
    rw [h x List.mem_cons_self, gds_of fun y hy => h y (List.mem_cons_of_mem _ hy)]
    rfl
def wdD : Option (List Nat) → D
  | some w => .str w
  | none => .non
theorem wdD_und (n : Nat) (o : Option (List Nat)) : D.und n (wdD o) = true := by cases o <;> rfl
theorem nin2 {s : List Nat} {M : MH} : cmpD M .NotIn (.str s) (.tup [.str [70], .str [66]]) = some (!turnB (.str s)) := by
  have e1 : cmpD M .NotIn (.str s) (.tup [.str [70], .str [66]]) = some (!(([70] == s) || (([66] == s) || false))) := by
    match s with
    | [] => rfl
    | [c] => rfl
    | c :: c' :: r => rfl
  rw [e1]
  have h1 : ([70] == s) = decide (s = [70]) := by rw [Bool.eq_iff_iff, beq_iff_eq, decide_eq_true_eq, eq_comm]
  have h2 : ([66] == s) = decide (s = [66]) := by rw [Bool.eq_iff_iff, beq_iff_eq, decide_eq_true_eq, eq_comm]
  rw [h1, h2, Bool.or_false]
  rfl
section
variable {M : MH} {d : Nat} {x : D}
theorem lword_ok (hM : Cl M) (hd : 1 < d) (hg : gd x = true) (hz : D.sz x ≤ lim) : R.f d 23 [x] M = .ok (wdD (wd x)) M := by
  have hlim : lim = 16777216 := rfl
  obtain ⟨d, rfl⟩ : ∃ e, d = e + 1 := ⟨d - 1, by omega⟩
  have fin : ∀ r : D, D.und 0 r = true → endF true M.length (.rt r M) = .ok r M := fun r h => endF_vC h (by simp) hM
  have e5o : ∀ (c : Cf) (ρ : LX.Env) (M : MH), (run pg).e c e5 ρ M = .ok (.tl L5) M := fun c ρ M => e5_ok
  rw [call_eq (t := f_23) rfl rfl]
  show endF true M.length (R.ss ⟨d, none⟩ f_23.body [some x, none, none, none, none] M) = _
  rw [body23]
  cases hs : shp x with
  | false =>
    rw [wd_no hs]
    show _ = Res.ok (D.str wWORD) M
    rw [← fin (.str wWORD) rfl]
    cases x with
    | tup xs =>
      cases xs with
      | nil => simp -implicitDefEqProofs [w1, isKind, kindOf]
      | cons y r =>
        have nb : (((r.length : Int) + 1) == 0) = false := beq_eq_false_iff_ne.mpr (by omega)
        cases y with
        | str s =>
          have hg1 : gd (.str s) = true := gds_mem (xs := D.str s :: r) hg List.mem_cons_self
          have hg2 : ((s.all fun c => decide (c < 1114112)) && decide (s.length ≤ 1000)) = true := hg1
          rw [Bool.and_eq_true] at hg2
          have ni := notin5 (s := s) (n := r.length + 1) (M := M) (by omega) hg2.1
          have l0 : decide (lenOf s = r.length + 1) = false := hs
          rw [l0] at ni
          have cc : ((r.length + 1 : Nat) : Int) = (r.length : Int) + 1 := by omega
          rw [cc] at ni
          generalize L5 = L at *
          simp -implicitDefEqProofs [w1, isKind, kindOf, atI_0, nb, e5o, ni, lim]
        | _ => simp -implicitDefEqProofs [w1, isKind, kindOf, atI_0, nb]
    | _ => simp -implicitDefEqProofs [w1, isKind, kindOf]
  | true =>
    rcases shp_cases hs with ⟨s, a, b, rfl, l3, ho⟩ | rfl
    · have gb : gd b = true := gds_mem (xs := [.str s, a, b]) hg (by simp)
      have e3 : wd (.tup [.str s, a, b]) = wd3 s a b := by
        show (if lenOf s = 3 then wd3 s a b else some wWORD) = _
        rw [if_pos l3]
      have ni : cmpD M .NotIn (.tup [.str s, .int 3]) (.tl L5) = some false := by
        have hg1 : gd (.str s) = true := gds_mem (xs := [.str s, a, b]) hg (by simp)
        have hg2 : ((s.all fun c => decide (c < 1114112)) && decide (s.length ≤ 1000)) = true := hg1
        rw [Bool.and_eq_true] at hg2
        have ni := notin5 (s := s) (n := 3) (M := M) (by omega) hg2.1
        rw [decide_eq_true l3] at ni
        exact ni
      have f1 : R.s ⟨d, none⟩ w1 [some (.tup [.str s, a, b]), none, none, none, none] M = .nx [some (.tup [.str s, a, b]), none, none, none, none] M := by
        generalize L5 = L at *
        simp -implicitDefEqProofs [w1, isKind, kindOf, atI_0, e5o, ni, lim]
      rw [e3, ← fin _ (wdD_und 0 _), ss_cons', f1, ssbind_nx]
      have lo := llow_ok (x := a) (d := d) hM (by omega)
      have lm := lmany_ok (x := a) (d := d) hM (by omega)
      rcases ho with rfl | rfl | rfl | rfl
      · have e4 : wd3 sTHREAD a b = if lowB a then (if colB b then none else some wCOL) else some wTAB := rfl
        rw [e4]
        cases la : lowB a with
        | false =>
          rw [la] at lo
          rw [if_neg (by decide)]
          simp -implicitDefEqProofs [w2, atI_0, atI_1, lo, wdD]
        | true =>
          rw [la] at lo
          rw [if_pos rfl]
          cases b with
          | str z =>
            have gz : ((z.all fun c => decide (c < 1114112)) && decide (z.length ≤ 1000)) = true := gb
            rw [Bool.and_eq_true, decide_eq_true_eq] at gz
            obtain ⟨l, hl, lc⟩ := lcC_ok (M := M) (d := d) (a := a) (z := z) (by omega)
            by_cases h4 : z.length = 4
            · have e4 : ((z.length : Int) == 4) = true := beq_iff_eq.mpr (by omega)
              by_cases h0 : l = []
              · have hc : colB (.str z) = true := by
                  show (decide (z.length = 4) && z.all fun c => isUP c) = true
                  rw [decide_eq_true h4, hl.mp h0]
                  rfl
                subst h0
                rw [hc, if_pos rfl]
                simp -implicitDefEqProofs [w2, w3, w4, w5, w6, w7, atI_0, atI_1, atI_2, lo, isKind, kindOf, e4, lc, i1, wdD, lim]
              · have hc : colB (.str z) = false := by
                  show (decide (z.length = 4) && z.all fun c => isUP c) = false
                  cases q : (z.all fun c => isUP c) with
                  | true => exact absurd (hl.mpr q) h0
                  | false => rw [Bool.and_false]
                have hp : (0 : Int) < (l.length : Int) := by
                  have := List.length_pos_iff.mpr h0
                  omega
                rw [hc, if_neg (by decide)]
                simp -implicitDefEqProofs [-Int.natCast_pos, w2, atI_0, atI_1, atI_2, lo, isKind, kindOf, e4, lc, hp, wdD]
            · have e4 : ((z.length : Int) == 4) = false := beq_eq_false_iff_ne.mpr (by omega)
              have hc : colB (.str z) = false := by
                show (decide (z.length = 4) && _) = false
                rw [decide_eq_false h4]
                rfl
              rw [hc, if_neg (by decide)]
              simp -implicitDefEqProofs [w2, atI_0, atI_1, atI_2, lo, isKind, kindOf, e4, wdD]
          | _ =>
            rw [if_neg (fun h => by cases h)]
            simp -implicitDefEqProofs [w2, atI_0, atI_1, atI_2, lo, isKind, kindOf, wdD]
      · cases la : lowB a with
        | false =>
          rw [la] at lo
          have e4 : wd3 sPACK a b = some sPACK := by simp [wd3, la]
          rw [e4]
          simp -implicitDefEqProofs [w2, w3, atI_0, atI_1, lo, wdD, i2, lim]
        | true =>
          rw [la] at lo
          have e4 : wd3 sPACK a b = if tabB b then none else some wTABS := by simp [wd3, la]
          rw [e4]
          cases b with
          | tup ys =>
            have sy : D.sz (.tup [.str sPACK, a, .tup ys]) = 1 + (1 + (D.sz a + (1 + D.szs ys + 0))) := rfl
            have hy := len_szs ys
            cases hys : ys with
            | nil =>
              subst hys
              rw [if_neg (by decide)]
              simp -implicitDefEqProofs [w2, w3, w4, atI_0, atI_1, atI_2, lo, wdD, i2, lim, isKind, kindOf]
            | cons y r =>
              have nb : ((ys.length : Int) == 0) = false := beq_eq_false_iff_ne.mpr (by rw [hys]; simp; omega)
              have te : tabB (.tup ys) = asB ys := by rw [hys]; rfl
              rw [← hys, te]
              obtain ⟨l, hl, lc⟩ := lcT_ok (M := M) (d := d) (a := a) (ys := ys) hM (by omega) (by omega)
              by_cases h0 : l = []
              · have hall := hl.mp h0
                subst h0
                obtain ⟨ns, rfl⟩ := ints_of (xs := ys) fun y hy => by
                  obtain ⟨i, e, _⟩ := low_int (List.all_eq_true.mp hall y hy)
                  exact ⟨i, e⟩
                rw [List.length_map] at hy nb
                obtain ⟨l2, hl2, lc2⟩ := lcK_ok (M := M) (d := d) (a := a) (ns := ns) (by omega)
                have ti : (ns.map D.int).map toI = ns := by rw [List.map_map]; exact List.map_id' ns
                have ae : asB (ns.map .int) = inc ns := by
                  show ((ns.map D.int).all lowB && inc ((ns.map D.int).map toI)) = _
                  rw [hall, ti]
                  rfl
                rw [ae]
                have nb2 : (((ns.map D.int).length : Int) == 0) = false := by rw [List.length_map]; exact nb
                generalize ns.map D.int = us at *
                by_cases h1 : l2 = []
                · have hi := hl2.mp h1
                  subst h1
                  rw [hi, if_pos rfl]
                  simp -implicitDefEqProofs [w2, w3, w4, w5, w6, w7, atI_0, atI_1, atI_2, lo, wdD, i2, lim, isKind, kindOf, nb2, lc, lc2]
                · have hp : (0 : Int) < (l2.length : Int) := by
                    have := List.length_pos_iff.mpr h1
                    omega
                  have hi : inc ns = false := by
                    cases q : inc ns with
                    | true => exact absurd (hl2.mpr q) h1
                    | false => rfl
                  rw [hi, if_neg (by decide)]
                  simp -implicitDefEqProofs [-Int.natCast_pos, w2, w3, w4, w5, w6, w7, atI_0, atI_1, atI_2, lo, wdD, i2, lim, isKind, kindOf, nb2, lc, lc2, hp]
              · have hp : (0 : Int) < (l.length : Int) := by
                  have := List.length_pos_iff.mpr h0
                  omega
                have ha : asB ys = false := by
                  show (ys.all lowB && _) = false
                  cases q : ys.all lowB with
                  | true => exact absurd (hl.mpr q) h0
                  | false => rfl
                rw [ha, if_neg (by decide)]
                simp -implicitDefEqProofs [-Int.natCast_pos, w2, w3, w4, atI_0, atI_1, atI_2, lo, wdD, i2, lim, isKind, kindOf, nb, lc, hp]
          | _ =>
            rw [if_neg (fun h => by cases h)]
            simp -implicitDefEqProofs [w2, w3, w4, atI_0, atI_1, atI_2, lo, isKind, kindOf, wdD, i2, lim]
      · cases la : lowB a with
        | false =>
          rw [la] at lo
          have e4 : wd3 sTURN a b = some sPACK := by simp [wd3, la]
          rw [e4]
          simp -implicitDefEqProofs [w2, w3, atI_0, atI_1, lo, wdD, i3, lim]
        | true =>
          rw [la] at lo
          have e4 : wd3 sTURN a b = if turnB b then none else some sTURN := by simp [wd3, la]
          rw [e4]
          cases b with
          | str z =>
            cases ht : turnB (.str z) with
            | true =>
              have nn := nin2 (s := z) (M := M)
              rw [ht] at nn
              rw [if_pos rfl]
              simp -implicitDefEqProofs [w2, w3, w4, w5, w6, w7, atI_0, atI_1, atI_2, lo, isKind, kindOf, wdD, i3, lim, nn]
            | false =>
              have nn := nin2 (s := z) (M := M)
              rw [ht] at nn
              rw [if_neg (by decide)]
              simp -implicitDefEqProofs [w2, w3, w4, w5, w6, w7, atI_0, atI_1, atI_2, lo, isKind, kindOf, wdD, i3, lim, nn]
          | _ =>
            rw [if_neg (fun h => by cases h)]
            simp -implicitDefEqProofs [w2, w3, w4, w5, atI_0, atI_1, atI_2, lo, isKind, kindOf, wdD, i3, lim]
      · have e4 : wd3 sREP a b = if manyB a then repB b else some wMANY := by simp [wd3]
        rw [e4]
        cases ma : manyB a with
        | false =>
          rw [ma] at lm
          rw [if_neg (by decide)]
          simp -implicitDefEqProofs [w2, w3, w4, w5, w6, atI_0, atI_1, atI_2, lm, isKind, kindOf, wdD, i5, lim]
        | true =>
          rw [ma] at lm
          rw [if_pos rfl]
          cases b with
          | tup ys =>
            cases ys with
            | nil =>
              simp -implicitDefEqProofs [w2, w3, w4, w5, w6, atI_0, atI_1, atI_2, lm, isKind, kindOf, wdD, i5, lim, repB]
            | cons y ys =>
              have nb : (((ys.length : Int) + 1) == 0) = false := beq_eq_false_iff_ne.mpr (by omega)
              have er : repB (.tup (y :: ys)) = none := rfl
              rw [er]
              simp -implicitDefEqProofs [w2, w3, w4, w5, w6, w7, atI_0, atI_1, atI_2, lm, isKind, kindOf, wdD, i5, lim, nb]
          | _ =>
            simp -implicitDefEqProofs [w2, w3, w4, w5, w6, atI_0, atI_1, atI_2, lm, isKind, kindOf, wdD, i5, lim, repB]
    · have ni : cmpD M .NotIn (.tup [.str sTHROW, .int 1]) (.tl L5) = some false := notin5 (s := sTHROW) (n := 1) (M := M) (by omega) (by decide)
      have e4 : wd (.tup [.str sTHROW]) = none := rfl
      rw [e4, ← fin _ (wdD_und 0 _)]
      generalize L5 = L at *
      simp -implicitDefEqProofs [w1, w2, w3, w4, w5, w6, w7, isKind, kindOf, atI_0, e5o, ni, lim, i4, wdD]
end
end LK

set_option Elab.async false
set_option linter.all false
set_option maxRecDepth 1000000
set_option maxHeartbeats 4000000
namespace LX
theorem rng3_down {T : Nat} (h1 : T ≤ 1000000) : rng3D (.int ((T : Int) - 1)) (.int (-1)) (.int (-1)) = some (rncL ((T : Int) - 1) (-1) T) := by
  have sz : PySem.Builtin.Range.rangeSize ((T : Int) - 1) (-1) (-1) = ((T : Nat) : Int) := by
    unfold PySem.Builtin.Range.rangeSize
    rw [if_neg (by decide), show (- (-1 : Int)) = 1 from rfl, Int.ediv_one]
    split <;> omega
  have sm : PySem.Builtin.Range.small ((T : Int) - 1) (-1) (-1) = true := by
    unfold PySem.Builtin.Range.small
    rw [sz]
    have f : ∀ i : Int, -10000000 ≤ i → i ≤ 30000000 → PySem.Builtin.Range.rangeFitsLong i = true := fun i a b => by
      unfold PySem.Builtin.Range.rangeFitsLong
      rw [Bool.and_eq_true, decide_eq_true_eq, decide_eq_true_eq]
      omega
    rw [f _ (by omega) (by omega), f (-1) (by decide) (by decide), f _ (by omega) (by omega), if_neg (by decide), f _ (by omega) (by omega), Bool.or_true]
    rfl
  have e : rng3D (.int ((T : Int) - 1)) (.int (-1)) (.int (-1)) = if decide ((-1 : Int) ≠ 0) && (decide ((-1 : Int).natAbs < 1073741824) && (PySem.Builtin.Range.small ((T : Int) - 1) (-1) (-1) && decide (0 ≤ PySem.Builtin.Range.rangeSize ((T : Int) - 1) (-1) (-1)))) then some (rncL ((T : Int) - 1) (-1) (PySem.Builtin.Range.rangeSize ((T : Int) - 1) (-1) (-1)).toNat) else none := rfl
  rw [e, sm, sz, Int.toNat_natCast, decide_eq_true (show (0 : Int) ≤ ((T : Nat) : Int) by omega)]
  rfl
end LX
namespace LK
open LX
/-- from s + m - 1 down to s -/
def dsc (s : Nat) : Nat → List D
  | 0 => []
  | m + 1 => dsc (s + 1) m ++ [.int (s : Nat)]
theorem dsc_cons : ∀ (m s : Nat), dsc s (m + 1) = .int ((s + m : Nat) : Int) :: dsc s m
  | 0, s => rfl
  | m + 1, s => by
    show dsc (s + 1) (m + 1) ++ [D.int (s : Nat)] = _
    rw [dsc_cons m (s + 1)]
    show D.int ((s + 1 + m : Nat) : Int) :: (dsc (s + 1) m ++ [D.int (s : Nat)]) = _
    rw [show s + 1 + m = s + (m + 1) by omega]
    rfl
theorem rnc_dsc : ∀ T : Nat, rncL ((T : Int) - 1) (-1) T = dsc 0 T
  | 0 => rfl
  | T + 1 => by
    rw [dsc_cons, ← rnc_dsc T]
    unfold rncL
    rw [List.range_succ_eq_map, List.map_cons, List.map_map]
    congr 1
    · show D.int _ = D.int _
      congr 1
      omega
    · refine List.map_congr_left fun k _ => ?_
      show D.int (((T + 1 : Nat) : Int) - 1 + ((k + 1 : Nat) : Int) * (-1)) = D.int ((T : Int) - 1 + (k : Int) * (-1))
      congr 1
      omega
theorem dsc_len : ∀ (m s : Nat), (dsc s m).length = m
  | 0, _ => rfl
  | m + 1, s => by show (dsc (s + 1) m ++ [D.int (s : Nat)]).length = _; rw [List.length_append, dsc_len m]; rfl
theorem dsc_mem : ∀ {m s : Nat} {x : D}, x ∈ dsc s m → ∃ i, i < s + m ∧ x = .int (i : Nat)
  | 0, _, _, h => by cases h
  | m + 1, s, x, h => by
    rcases List.mem_append.mp (show x ∈ dsc (s + 1) m ++ [D.int (s : Nat)] from h) with h | h
    · obtain ⟨i, h1, h2⟩ := dsc_mem h
      exact ⟨i, by omega, h2⟩
    · exact ⟨s, by omega, List.mem_singleton.mp h⟩
/-- the law's own going through -/
abbrev En : Type := D × List Nat × Nat
def en (e : En) : D := .tup [e.1, pth e.2.1, .int (e.2.2 : Nat)]
def ents : List D → Nat → List Nat → Nat → List En
  | [], _, _, _ => []
  | y :: ys, i, p, r => (y, p ++ [i], r) :: ents ys (i + 1) p r
def fin : List En → Nat → Nat → Ex
  | [], c, b => .ok (c, b)
  | e :: L, c, b => match lk e.1 e.2.1 with
    | .error w => .error w
    | .ok (m, k) => fin L (c + m) (max b (e.2.2 + k))
theorem fin_ents : ∀ (ys : List D) (i : Nat) (p : List Nat) (r : Nat) (L : List En) (c b : Nat), r ≤ b → fin (ents ys i p r ++ L) c b = match gn ys i p with
    | .error e => .error e
    | .ok (m, k) => fin L (c + m) (max b (r + k))
  | [], i, p, r, L, c, b, h => by
    show fin L c b = fin L (c + 0) (max b (r + 0))
    rw [Nat.add_zero, Nat.max_eq_left (by omega)]
  | y :: ys, i, p, r, L, c, b, h => by
    show (match lk y (p ++ [i]) with
      | Except.error w => (Except.error w : Ex)
      | Except.ok (m, k) => fin (ents ys (i + 1) p r ++ L) (c + m) (max b (r + k))) = _
    rw [gn]
    cases lk y (p ++ [i]) with
    | error e => rfl
    | ok mk =>
      obtain ⟨m, k⟩ := mk
      dsimp only
      rw [fin_ents ys (i + 1) p r L (c + m) (max b (r + k)) (by omega)]
      cases gn ys (i + 1) p with
      | error e => rfl
      | ok mk =>
        obtain ⟨m2, k2⟩ := mk
        dsimp only
        rw [Nat.add_assoc, show max (max b (r + k)) (r + k2) = max b (r + max k k2) by omega]
def fE (zs : List D) (p : List Nat) (r : Nat) : D → D
  | .int i => .tup [(zs[i.toNat]?).getD .non, pth (p ++ [i.toNat]), .int (r : Nat)]
  | _ => .non
theorem dsc_ents (zs : List D) (p : List Nat) (r : Nat) : ∀ (m s : Nat), s + m = zs.length → (dsc s m).map (fE zs p r) = (ents (zs.drop s) s p r).reverse.map en
  | 0, s, h => by
    rw [List.drop_of_length_le (by omega)]
    rfl
  | m + 1, s, h => by
    have hs : s < zs.length := by omega
    rw [List.drop_eq_getElem_cons hs]
    show (dsc (s + 1) m ++ [D.int (s : Nat)]).map (fE zs p r) = ((zs[s], p ++ [s], r) :: ents (zs.drop (s + 1)) (s + 1) p r).reverse.map en
    rw [List.map_append, dsc_ents zs p r m (s + 1) (by omega), List.reverse_cons, List.map_append]
    congr 1
    show [D.tup [(zs[((s : Nat) : Int).toNat]?).getD .non, pth (p ++ [((s : Nat) : Int).toNat]), .int (r : Nat)]] = _
    rw [Int.toNat_natCast, List.getElem?_eq_getElem hs]
    rfl
def eS : List En → Nat
  | [] => 0
  | e :: L => D.sz e.1 + eS L
theorem eS_app : ∀ (L L' : List En), eS (L ++ L') = eS L + eS L'
  | [], L' => by simp [eS]
  | e :: L, L' => by simp [eS, eS_app L L', Nat.add_assoc]
theorem eS_ents : ∀ (ys : List D) (i : Nat) (p : List Nat) (r : Nat), eS (ents ys i p r) = D.szs ys
  | [], _, _, _ => rfl
  | y :: ys, i, p, r => by
    show D.sz y + eS (ents ys (i + 1) p r) = D.sz y + D.szs ys
    rw [eS_ents]
theorem len_ents : ∀ (ys : List D) (i : Nat) (p : List Nat) (r : Nat), (ents ys i p r).length = ys.length
  | [], _, _, _ => rfl
  | y :: ys, i, p, r => by
    show (ents ys (i + 1) p r).length + 1 = _
    rw [len_ents]
    rfl
theorem len_eS : ∀ L : List En, L.length ≤ eS L
  | [] => Nat.le_refl _
  | e :: L => by
    have := sz_pos e.1
    have := len_eS L
    show L.length + 1 ≤ D.sz e.1 + eS L
    omega
theorem mem_ents : ∀ {ys : List D} {i : Nat} {p : List Nat} {r : Nat} {e : En}, e ∈ ents ys i p r → e.1 ∈ ys ∧ e.2.1.length = p.length + 1 ∧ e.2.2 = r
  | y :: ys, i, p, r, e, h => by
    rcases List.mem_cons.mp (show e ∈ (y, p ++ [i], r) :: ents ys (i + 1) p r from h) with rfl | h
    · exact ⟨List.mem_cons_self, by simp, rfl⟩
    · obtain ⟨h1, h2, h3⟩ := mem_ents h
      exact ⟨List.mem_cons_of_mem _ h1, h2, h3⟩
/-- a while loop that runs to its end, or hands back on its way -/
theorem wh_ex {c : Cf} {t : E} {b : List S} (I : Nat → LX.Env → MH → Prop) (Rt : D → MH → Prop) (F : LX.Env → MH → Prop) (h : ∀ k ρ M, I k ρ M → (R.e c t ρ M = .ok (.bl false) M ∧ F ρ M) ∨ (R.e c t ρ M = .ok (.bl true) M ∧ ((∃ ρ2 M2 k2, R.ss c b ρ M = .nx ρ2 M2 ∧ k2 < k ∧ I k2 ρ2 M2) ∨ (∃ d M2, R.ss c b ρ M = .rt d M2 ∧ Rt d M2) ∨ ∃ ρ2 M2, R.ss c b ρ M = .bk ρ2 M2 ∧ F ρ2 M2))) :
    ∀ k ρ M, I k ρ M → (∃ ρ' M', R.s c (.wh t b) ρ M = .nx ρ' M' ∧ F ρ' M') ∨ ∃ d M', R.s c (.wh t b) ρ M = .rt d M' ∧ Rt d M' := by
  intro k
  induction k using Nat.strongRecOn with
  | ind k ih =>
    intro ρ M hi
    rcases h k ρ M hi with ⟨e, hF⟩ | ⟨e, ⟨ρ2, M2, k2, e2, hk, h2⟩ | ⟨d, M2, e2, h2⟩ | ⟨ρ2, M2, e2, h2⟩⟩
    · refine .inl ⟨ρ, M, ?_, hF⟩
      rw [st_wh, e]
      rfl
    · rcases ih k2 hk ρ2 M2 h2 with ⟨ρ', M', e3, h3⟩ | ⟨d, M', e3, h3⟩
      · refine .inl ⟨ρ', M', ?_, h3⟩
        rw [st_wh, e]
        simp -implicitDefEqProofs [e2, e3]
      · refine .inr ⟨d, M', ?_, h3⟩
        rw [st_wh, e]
        simp -implicitDefEqProofs [e2, e3]
    · refine .inr ⟨d, M2, ?_, h2⟩
      rw [st_wh, e]
      simp -implicitDefEqProofs [e2]
    · refine .inl ⟨ρ2, M2, ?_, h2⟩
      rw [st_wh, e]
      simp -implicitDefEqProofs [e2]
def dueD : Ex → D
  | .ok (m, b) => .tup [.str sTOLD, .int (m : Nat), .int (b : Nat)]
  | .error (q, w) => .tup [.str sBAD, pth q, .str w]
def t24 : E := .cmp .Gt (.fn false .len [.var 1]) (.con (.int 0))
def c24 : E := .lc false [5] (.one 5) (.rng3 (.bin false .Sub (.fn false .len [.ix (.var 6) (.con (.int 2))]) (.con (.int 1))) (.neg (.con (.int 1))) (.neg (.con (.int 1)))) none (.tup [.ix (.ix (.var 6) (.con (.int 2))) (.var 5), .bin false .Add (.var 7) (.tup [.var 5]), .bin false .Add (.var 8) (.con (.int 1))])
def b24 : List S := [.unp [6, 7, 8] (.meth .pop0 (.var 1) []), .set 4 (.call 23 [.var 6]), .ite (.cmp .IsNot (.var 4) (.con .non)) [.ret (.tup [.con (.str sBAD), .var 7, .var 4])] [], .set 2 (.bin false .Add (.var 2) (.con (.int 1))), .ite (.cmp .Eq (.ix (.var 6) (.con (.int 0))) (.con (.str sREP))) [.set 3 (.fn false .max2 [.var 3, .bin false .Add (.var 8) (.con (.int 1))]), .expr (.meth .extend (.var 1) [c24])] []]
section
variable {M : MH} {d : Nat} {x : D}
/-- the entries within a repeat -/
theorem c24_ok {s : List Nat} {a : D} {ys : List D} {p : List Nat} {r : Nat} {o0 o1 o2 o3 o4 o5 : Option D} {M : MH} (hy : ys.length ≤ 1000000) (hp : p.length + 1 ≤ lim) : R.e ⟨d, none⟩ c24 [o0, o1, o2, o3, o4, o5, some (.tup [.str s, a, .tup ys]), some (pth p), some (.int (r : Nat))] M = .ok (.tl ((ents ys 0 p (r + 1)).reverse.map en)) M := by
  have hlim : lim = 16777216 := rfl
  have rg := rng3_down hy
  rw [rnc_dsc] at rg
  have lc : lcL R ⟨d, none⟩ (.one 5) (dsc 0 ys.length) none none (.tup [.ix (.ix (.var 6) (.con (.int 2))) (.var 5), .bin false .Add (.var 7) (.tup [.var 5]), .bin false .Add (.var 8) (.con (.int 1))]) [o0, o1, o2, o3, o4, none, some (.tup [.str s, a, .tup ys]), some (pth p), some (.int (r : Nat))] (dsc 0 ys.length) [] M = .ok ([] ++ (dsc 0 ys.length).map (fE ys p (r + 1))) M :=
    lc_map (fE ys p (r + 1)) (fun x hx => by
      obtain ⟨i, hi, rfl⟩ := dsc_mem hx
      have g : ys[i]? = some ys[i] := List.getElem?_eq_getElem (by omega)
      have ad : binD false M .Add (pth p) (.tup [.int (i : Nat)]) = .ok (pth (p ++ [i])) M := by
        have q := add_tup (m := false) (M := M) (xs := p.map fun i => D.int (i : Nat)) (ys := [.int (i : Nat)]) (by simp; omega)
        have e : pth (p ++ [i]) = .tup ((p.map fun i => D.int (i : Nat)) ++ [.int (i : Nat)]) := by unfold pth; simp
        rw [e]
        exact q
      refine ⟨_, rfl, ?_⟩
      show _ = Res.ok (D.tup [(ys[((i : Nat) : Int).toNat]?).getD .non, pth (p ++ [((i : Nat) : Int).toNat]), .int ((r + 1 : Nat) : Int)]) M
      rw [Int.toNat_natCast, g]
      generalize pth p = P at *
      generalize pth (p ++ [i]) = Q at *
      simp -implicitDefEqProofs [atI_2, atI_at, g, ad, lim]) (by rw [dsc_len]; simp; omega)
  rw [List.nil_append, dsc_ents ys p (r + 1) ys.length 0 (by omega), List.drop_zero] at lc
  unfold c24
  simp -implicitDefEqProofs [atI_2, rg, wipeE]
  rw [lc]
  simp
theorem in24 {w : Option (List Nat)} : isNon (wdD w) = w.isNone := by cases w <;> rfl
def J24 (x : D) (M : MH) (Z : Nat) (T : Ex) (k : Nat) (ρ : LX.Env) (M' : MH) : Prop := ∃ L c b o4 o5 o6 o7 o8, M' = M ++ [.lst (L.reverse.map en)] ∧ ρ = [some x, some (.ref M.length), some (.int (c : Nat)), some (.int (b : Nat)), o4, o5, o6, o7, o8] ∧ fin L c b = T ∧ k = eS L ∧ k ≤ Z ∧ ∀ e ∈ L, gd e.1 = true ∧ e.2.2 ≤ b ∧ e.2.1.length + D.sz e.1 ≤ Z
theorem turn24 {Z : Nat} {T : Ex} (hM : Cl M) (hd : 1 < d) (hZ : Z ≤ 1000000) (k : Nat) (ρ : LX.Env) (M' : MH) (h : J24 x M Z T k ρ M') :
    (R.e ⟨d, none⟩ t24 ρ M' = .ok (.bl false) M' ∧ ∃ c b : Nat, ∃ o4 o5 o6 o7 o8, T = .ok (c, b) ∧ M' = M ++ [.lst []] ∧ ρ = [some x, some (.ref M.length), some (.int (c : Nat)), some (.int (b : Nat)), o4, o5, o6, o7, o8]) ∨
    (R.e ⟨d, none⟩ t24 ρ M' = .ok (.bl true) M' ∧ ((∃ ρ2 M2 k2, R.ss ⟨d, none⟩ b24 ρ M' = .nx ρ2 M2 ∧ k2 < k ∧ J24 x M Z T k2 ρ2 M2) ∨ ∃ v M2, R.ss ⟨d, none⟩ b24 ρ M' = .rt v M2 ∧ (∃ q w, T = .error (q, w) ∧ v = dueD T ∧ M2.take M.length = M))) := by
  have hlim : lim = 16777216 := rfl
  obtain ⟨L, c, b, o4, o5, o6, o7, o8, rfl, rfl, hT, rfl, hz, hL⟩ := h
  cases L with
  | nil =>
    left
    refine ⟨by simp [t24], c, b, o4, o5, o6, o7, o8, hT.symm, rfl, rfl⟩
  | cons e L =>
    right
    obtain ⟨y, p, r⟩ := e
    obtain ⟨g1, g2, g3⟩ := hL (y, p, r) List.mem_cons_self
    dsimp only at g1 g2 g3
    have eR : ((y, p, r) :: L).reverse.map en = L.reverse.map en ++ [.tup [y, pth p, .int (r : Nat)]] := by simp [en]
    rw [eR]
    have ez : eS ((y, p, r) :: L) = D.sz y + eS L := rfl
    rw [ez] at hz ⊢
    have ysp := sz_pos y
    refine ⟨by simp [t24], ?_⟩
    have hu : ∀ e ∈ L, D.und 0 (en e) = true := fun e he => by
      have := gd_und (hL e (List.mem_cons_of_mem _ he)).1
      show (D.und 0 e.1 && (D.und 0 (pth e.2.1) && (true && true))) = true
      rw [this, pth_und]
      rfl
    have hM1 : Cl (M ++ [.lst (L.reverse.map en)]) := cl_snoc hM (unds_of fun d hd => by
      obtain ⟨e, he, rfl⟩ := List.mem_map.mp hd
      exact hu e (List.mem_reverse.mp he))
    have lw := lword_ok (x := y) hM1 hd g1 (by omega)
    have hT' : T = match lk y p with
      | .error w => .error w
      | .ok (m, k) => fin L (c + m) (max b (r + k)) := hT.symm
    have s1 : R.ss ⟨d, none⟩ b24 [some x, some (.ref M.length), some (.int (c : Nat)), some (.int (b : Nat)), o4, o5, o6, o7, o8] (M ++ [.lst (L.reverse.map en ++ [.tup [y, pth p, .int (r : Nat)]])]) = R.ss ⟨d, none⟩ (b24.drop 2) [some x, some (.ref M.length), some (.int (c : Nat)), some (.int (b : Nat)), some (wdD (wd y)), o5, some y, some (pth p), some (.int (r : Nat))] (M ++ [.lst (L.reverse.map en)]) := by
      unfold b24
      generalize pth p = P at *
      generalize c24 = C at *
      generalize wdD (wd y) = W at *
      generalize hA : List.map en L.reverse = A at *
      simp -implicitDefEqProofs [bindG, setAll, lw]
    rw [s1]
    generalize hA : List.map en L.reverse = A at *
    cases hw : wd y with
    | some w =>
      right
      rw [lk_bad hw] at hT'
      dsimp only at hT'
      refine ⟨dueD T, M ++ [.lst A], ?_, p, w, hT', rfl, by simp⟩
      rw [hT']
      show R.ss ⟨d, none⟩ [.ite (.cmp .IsNot (.var 4) (.con .non)) [.ret (.tup [.con (.str sBAD), .var 7, .var 4])] [], .set 2 (.bin false .Add (.var 2) (.con (.int 1))), .ite (.cmp .Eq (.ix (.var 6) (.con (.int 0))) (.con (.str sREP))) [.set 3 (.fn false .max2 [.var 3, .bin false .Add (.var 8) (.con (.int 1))]), .expr (.meth .extend (.var 1) [c24])] []] [some x, some (.ref M.length), some (.int (c : Nat)), some (.int (b : Nat)), some (.str w), o5, some y, some (pth p), some (.int (r : Nat))] (M ++ [.lst A]) = .rt (.tup [.str sBAD, pth p, .str w]) (M ++ [.lst A])
      generalize pth p = P at *
      generalize c24 = C at *
      simp -implicitDefEqProofs [lim]
    | none =>
      left
      by_cases hr : ∃ a zs, y = .tup [.str sREP, a, .tup zs]
      · obtain ⟨a, zs, rfl⟩ := hr
        rw [lk_rep hw] at hT'
        have sy : D.sz (.tup [.str sREP, a, .tup zs]) = 1 + (1 + (D.sz a + (1 + D.szs zs + 0))) := rfl
        have lz := len_szs zs
        have sa := sz_pos a
        have cc := c24_ok (d := d) (s := sREP) (a := a) (ys := zs) (p := p) (r := r) (o0 := some x) (o1 := some (.ref M.length)) (o2 := some (.int ((c + 1 : Nat) : Int))) (o3 := some (.int ((max b (r + 1) : Nat) : Int))) (o4 := some .non) (o5 := o5) (M := M ++ [.lst A]) (by omega) (by omega)
        have gz : ∀ z ∈ zs, gd z = true := fun z hz => by
          have h3 : gd (.tup zs) = true := gds_mem (xs := [.str sREP, a, .tup zs]) g1 (by simp)
          exact gds_mem (xs := zs) h3 hz
        refine ⟨[some x, some (.ref M.length), some (.int ((c + 1 : Nat) : Int)), some (.int ((max b (r + 1) : Nat) : Int)), some .non, o5, some (.tup [.str sREP, a, .tup zs]), some (pth p), some (.int (r : Nat))], M ++ [.lst ((ents zs 0 p (r + 1) ++ L).reverse.map en)], D.szs zs + eS L, ?_, by omega, ents zs 0 p (r + 1) ++ L, c + 1, max b (r + 1), _, _, _, _, _, rfl, rfl, ?_, by rw [eS_app, eS_ents], by omega, fun e he => ?_⟩
        · have m1 : (if (b : Int) < (r : Int) + 1 then (r : Int) + 1 else (b : Int)) = ((max b (r + 1) : Nat) : Int) := by split <;> omega
          have m2 : ((c : Int) + 1) = ((c + 1 : Nat) : Int) := by omega
          have lA : A.length = L.length := by rw [← hA]; simp
          have le := len_eS L
          have lt : A.length + (List.map en (ents zs 0 p (r + 1)).reverse).length ≤ lim := by rw [lA, List.length_map, List.length_reverse, len_ents]; omega
          have eA : List.map en (ents zs 0 p (r + 1) ++ L).reverse = A ++ List.map en (ents zs 0 p (r + 1)).reverse := by rw [← hA]; simp
          rw [eA]
          show R.ss ⟨d, none⟩ [.ite (.cmp .IsNot (.var 4) (.con .non)) [.ret (.tup [.con (.str sBAD), .var 7, .var 4])] [], .set 2 (.bin false .Add (.var 2) (.con (.int 1))), .ite (.cmp .Eq (.ix (.var 6) (.con (.int 0))) (.con (.str sREP))) [.set 3 (.fn false .max2 [.var 3, .bin false .Add (.var 8) (.con (.int 1))]), .expr (.meth .extend (.var 1) [c24])] []] [some x, some (.ref M.length), some (.int (c : Nat)), some (.int (b : Nat)), some .non, o5, some (.tup [.str sREP, a, .tup zs]), some (pth p), some (.int (r : Nat))] (M ++ [.lst A]) = _
          generalize List.map en (ents zs 0 p (r + 1)).reverse = B at *
          generalize pth p = P at *
          generalize c24 = C at *
          generalize ((max b (r + 1) : Nat) : Int) = X at *
          generalize ((c + 1 : Nat) : Int) = Y at *
          simp -implicitDefEqProofs [atI_0, m1, m2, cc, ext_tl, lt]
        · rw [hT', fin_ents zs 0 p (r + 1) L (c + 1) (max b (r + 1)) (by omega)]
          cases gn zs 0 p with
          | error e => rfl
          | ok mk =>
            obtain ⟨m, k⟩ := mk
            show fin L (c + 1 + m) (max (max b (r + 1)) (r + 1 + k)) = fin L (c + (1 + m)) (max b (r + (1 + k)))
            rw [Nat.add_assoc, show max (max b (r + 1)) (r + 1 + k) = max b (r + (1 + k)) by omega]
        · rcases List.mem_append.mp he with he | he
          · obtain ⟨h1, h2, h3⟩ := mem_ents he
            have := szs_mem h1
            exact ⟨gz _ h1, by omega, by omega⟩
          · obtain ⟨h1, h2, h3⟩ := hL e (List.mem_cons_of_mem _ he)
            exact ⟨h1, by omega, h3⟩
      · rw [lk_leaf hw (fun a ys h => hr ⟨a, ys, h⟩)] at hT'
        dsimp only at hT'
        rw [show max b (r + 0) = b by omega] at hT'
        refine ⟨[some x, some (.ref M.length), some (.int ((c + 1 : Nat) : Int)), some (.int (b : Nat)), some .non, o5, some y, some (pth p), some (.int (r : Nat))], M ++ [.lst (L.reverse.map en)], eS L, ?_, by omega, L, c + 1, b, _, _, _, _, _, rfl, rfl, hT'.symm, rfl, by omega, fun e he => hL e (List.mem_cons_of_mem _ he)⟩
        have hs : shp y = true := by
          cases q : shp y with
          | true => rfl
          | false => rw [wd_no q] at hw; cases hw
        obtain ⟨s, l, rfl, ns⟩ : ∃ s l, y = .tup (.str s :: l) ∧ (s == sREP) = false := by
          rcases shp_cases hs with ⟨s, a, b, rfl, l3, ho⟩ | rfl
          · refine ⟨s, [a, b], rfl, beq_eq_false_iff_ne.mpr fun e => ?_⟩
            subst e
            have e3 : wd (.tup [.str sREP, a, b]) = wd3 sREP a b := by
              show (if lenOf sREP = 3 then wd3 sREP a b else some wWORD) = _
              rw [if_pos l3]
            rw [e3] at hw
            have e5 : (if manyB a then repB b else some wMANY) = none := hw
            cases b with
            | tup ys => exact hr ⟨a, ys, rfl⟩
            | _ => split at e5 <;> cases e5
          · exact ⟨sTHROW, [], rfl, rfl⟩
        have m2 : ((c : Int) + 1) = ((c + 1 : Nat) : Int) := by omega
        show R.ss ⟨d, none⟩ [.ite (.cmp .IsNot (.var 4) (.con .non)) [.ret (.tup [.con (.str sBAD), .var 7, .var 4])] [], .set 2 (.bin false .Add (.var 2) (.con (.int 1))), .ite (.cmp .Eq (.ix (.var 6) (.con (.int 0))) (.con (.str sREP))) [.set 3 (.fn false .max2 [.var 3, .bin false .Add (.var 8) (.con (.int 1))]), .expr (.meth .extend (.var 1) [c24])] []] [some x, some (.ref M.length), some (.int (c : Nat)), some (.int (b : Nat)), some .non, o5, some (.tup (.str s :: l)), some (pth p), some (.int (r : Nat))] (M ++ [.lst A]) = _
        rw [hA]
        generalize pth p = P at *
        generalize c24 = C at *
        generalize ((c + 1 : Nat) : Int) = Y at *
        simp -implicitDefEqProofs [atI_0, m2, ns]
end
end LK

set_option Elab.async false
set_option linter.all false
set_option maxRecDepth 1000000
set_option maxHeartbeats 4000000
namespace LK
open LX
theorem dueD_und (n : Nat) (r : Ex) : D.und n (dueD r) = true := by
  cases r with
  | ok mb => rfl
  | error qw =>
    obtain ⟨q, w⟩ := qw
    show (true && (D.und n (pth q) && (true && true))) = true
    rw [pth_und]
    rfl
def r24 : E := .ite (.or (.cmp .Gt (.var 2) (.con (.int 2000))) (.cmp .Gt (.var 3) (.con (.int 20)))) (.tup [.con (.str sBAD), .tup [], .con (.str wSIZE)]) (.tup [.con (.str sTOLD), .var 2, .var 3])
def i24 : E := .lc true [5] (.one 5) (.rng3 (.bin false .Sub (.fn false .len [.var 0]) (.con (.int 1))) (.neg (.con (.int 1))) (.neg (.con (.int 1)))) none (.tup [.ix (.var 0) (.var 5), .tup [.var 5], .con (.int 0)])
section
variable {M : MH} {d k : Nat} {x : D}
theorem lchecked_ok (hM : Cl M) (hd : 2 < d) (hg : gd x = true) (hz : D.sz x ≤ 1000000) : R.f d 24 [x] M = .ok (dueD (chk x)) M := by
  have hlim : lim = 16777216 := rfl
  obtain ⟨d, rfl⟩ : ∃ e, d = e + 1 := ⟨d - 1, by omega⟩
  rw [call_eq (t := f_24) rfl rfl]
  have eb : f_24.body = [.ite (.not (.isi [.tuple] (.var 0))) [.ret (.tup [.con (.str sBAD), .tup [], .con (.str wSHAPE)])] [], .set 1 i24, .set 2 (.con (.int 0)), .set 3 (.con (.int 0)), .wh t24 b24, .ret r24] := rfl
  show endF true M.length (R.ss ⟨d, none⟩ f_24.body [some x, none, none, none, none, none, none, none, none] M) = _
  rw [eb]
  by_cases ht : ∃ ys, x = .tup ys
  · obtain ⟨ys, rfl⟩ := ht
    have sy : D.sz (.tup ys) = 1 + D.szs ys := rfl
    have ly := len_szs ys
    have rg := rng3_down (T := ys.length) (by omega)
    rw [rnc_dsc] at rg
    have lc : lcL R ⟨d, none⟩ (.one 5) (dsc 0 ys.length) none none (.tup [.ix (.var 0) (.var 5), .tup [.var 5], .con (.int 0)]) [some (.tup ys), none, none, none, none, none, none, none, none] (dsc 0 ys.length) [] M = .ok ([] ++ (dsc 0 ys.length).map (fE ys [] 0)) M :=
      lc_map (fE ys [] 0) (fun x hx => by
        obtain ⟨i, hi, rfl⟩ := dsc_mem hx
        have g : ys[i]? = some ys[i] := List.getElem?_eq_getElem (by omega)
        refine ⟨_, rfl, ?_⟩
        show _ = Res.ok (D.tup [(ys[((i : Nat) : Int).toNat]?).getD .non, .tup [.int ((((i : Nat) : Int).toNat : Nat) : Int)], .int ((0 : Nat) : Int)]) M
        rw [Int.toNat_natCast, g]
        simp -implicitDefEqProofs [atI_at, g, lim]) (by rw [dsc_len]; simp; omega)
    rw [List.nil_append, dsc_ents ys [] 0 ys.length 0 (by omega), List.drop_zero] at lc
    have e1 : R.e ⟨d, none⟩ i24 [some (.tup ys), none, none, none, none, none, none, none, none] M = .ok (.ref M.length) (M ++ [.lst ((ents ys 0 [] 0).reverse.map en)]) := by
      unfold i24
      simp -implicitDefEqProofs [rg, wipeE]
      rw [lc]
      simp
    have gy : ∀ y ∈ ys, gd y = true := fun y hy => gds_mem (xs := ys) hg hy
    have key := wh_ex (c := ⟨d, none⟩) (t := t24) (b := b24) (J24 (.tup ys) M (D.sz (.tup ys)) (gn ys 0 [])) (fun v M2 => ∃ q w, gn ys 0 [] = .error (q, w) ∧ v = dueD (gn ys 0 []) ∧ M2.take M.length = M)
      (fun ρ M' => ∃ c b : Nat, ∃ o4 o5 o6 o7 o8, gn ys 0 [] = .ok (c, b) ∧ M' = M ++ [.lst []] ∧ ρ = [some (.tup ys), some (.ref M.length), some (.int (c : Nat)), some (.int (b : Nat)), o4, o5, o6, o7, o8])
      (fun k ρ M' h => by
        rcases turn24 (d := d) hM (by omega) hz k ρ M' h with h | ⟨e, h | h⟩
        · exact .inl h
        · exact .inr ⟨e, .inl h⟩
        · exact .inr ⟨e, .inr (.inl h)⟩) (eS (ents ys 0 [] 0)) [some (.tup ys), some (.ref M.length), some (.int ((0 : Nat) : Int)), some (.int ((0 : Nat) : Int)), none, none, none, none, none] (M ++ [.lst ((ents ys 0 [] 0).reverse.map en)])
      ⟨ents ys 0 [] 0, 0, 0, none, none, none, none, none, rfl, rfl, by
        have f := fin_ents ys 0 [] 0 [] 0 0 (Nat.le_refl _)
        rw [List.append_nil] at f
        rw [f]
        cases gn ys 0 [] with
        | error e => rfl
        | ok mk =>
          obtain ⟨m, k⟩ := mk
          show Except.ok (0 + m, max 0 (0 + k)) = _
          rw [Nat.zero_add, Nat.zero_add, Nat.zero_max], rfl, by rw [eS_ents]; omega, fun e he => by
        obtain ⟨h1, h2, h3⟩ := mem_ents he
        have := szs_mem h1
        have h2' : e.2.1.length = 1 := h2
        exact ⟨gy _ h1, by omega, by omega⟩⟩
    have ec : chk (.tup ys) = match gn ys 0 [] with
      | .error e => .error e
      | .ok (m, b) => if 2000 < m ∨ 20 < b then .error ([], wSIZE) else .ok (m, b) := rfl
    rcases key with ⟨ρ', M', e2, c, b, o4, o5, o6, o7, o8, hg, rfl, rfl⟩ | ⟨v, M', e2, q, w, hg, rfl, ht⟩
    · rw [ec, hg]
      dsimp only
      have z : ((0 : Nat) : Int) = 0 := rfl
      rw [z] at e2
      generalize List.map en (ents ys 0 [] 0).reverse = A0 at *
      generalize i24 = I at *
      generalize t24 = T at *
      generalize b24 = B at *
      by_cases h1 : 2000 < c
      · rw [if_pos (.inl h1), ← endF_vC (M := M) (M' := M ++ [.lst []]) (dueD_und 0 (.error ([], wSIZE))) (by simp) hM]
        have h1' : (2000 : Int) < (c : Int) := by omega
        simp -implicitDefEqProofs [isKind, kindOf, e1, e2, r24, h1', lim]
        rfl
      · have h1' : ¬ (2000 : Int) < (c : Int) := by omega
        by_cases h2 : 20 < b
        · rw [if_pos (.inr h2), ← endF_vC (M := M) (M' := M ++ [.lst []]) (dueD_und 0 (.error ([], wSIZE))) (by simp) hM]
          have h2' : (20 : Int) < (b : Int) := by omega
          simp -implicitDefEqProofs [isKind, kindOf, e1, e2, r24, h1', h2', lim]
          rfl
        · rw [if_neg (fun h => h.elim h1 h2), ← endF_vC (M := M) (M' := M ++ [.lst []]) (dueD_und 0 (.ok (c, b))) (by simp) hM]
          have h2' : ¬ (20 : Int) < (b : Int) := by omega
          simp -implicitDefEqProofs [isKind, kindOf, e1, e2, r24, h1', h2', lim]
          rfl
    · rw [ec, hg]
      dsimp only
      rw [hg] at e2
      rw [← endF_vC (M := M) (M' := M') (dueD_und 0 (.error (q, w))) ht hM]
      have z : ((0 : Nat) : Int) = 0 := rfl
      rw [z] at e2
      generalize List.map en (ents ys 0 [] 0).reverse = A0 at *
      generalize i24 = I at *
      generalize t24 = T at *
      generalize b24 = B at *
      generalize dueD (.error (q, w)) = V at *
      simp -implicitDefEqProofs [isKind, kindOf, e1, e2, lim]
  · obtain ⟨h1, h2⟩ := not_tup ht
    rw [h2, ← endF_vC (M := M) (M' := M) (dueD_und 0 (.error ([], wSHAPE))) (by simp) hM]
    generalize i24 = I at *
    generalize t24 = T at *
    generalize b24 = B at *
    generalize r24 = C at *
    simp -implicitDefEqProofs [h1, lim]
    rfl
/-! ### how long a path is -/
theorem gn_len : ∀ {ys : List D} {i : Nat} {p q w : List Nat}, (∀ y ∈ ys, ∀ p q w, lk y p = .error (q, w) → q.length ≤ p.length + D.sz y) → gn ys i p = .error (q, w) → q.length ≤ p.length + 1 + D.szs ys
  | [], _, _, _, _, _, e => by rw [gn] at e; cases e
  | y :: ys, i, p, q, w, h, e => by
    rw [gn] at e
    have es : D.szs (y :: ys) = D.sz y + D.szs ys := rfl
    cases e1 : lk y (p ++ [i]) with
    | error qw =>
      obtain ⟨q', w'⟩ := qw
      rw [e1] at e
      dsimp only at e
      have := h y List.mem_cons_self _ _ _ e1
      rw [List.length_append, List.length_singleton] at this
      injection e with e
      injection e with e e'
      subst e
      omega
    | ok mb =>
      obtain ⟨m, b⟩ := mb
      rw [e1] at e
      dsimp only at e
      cases e2 : gn ys (i + 1) p with
      | error qw =>
        obtain ⟨q', w'⟩ := qw
        rw [e2] at e
        dsimp only at e
        have := gn_len (fun y hy => h y (List.mem_cons_of_mem _ hy)) e2
        injection e with e
        injection e with e e'
        subst e
        omega
      | ok mb =>
        obtain ⟨m, b⟩ := mb
        rw [e2] at e
        cases e
theorem lk_len : ∀ (k : Nat) {x : D} {p q w : List Nat}, D.sz x ≤ k → lk x p = .error (q, w) → q.length ≤ p.length + D.sz x := by
  intro k
  induction k with
  | zero => intro x p q w h e; have := sz_pos x; omega
  | succ k ih =>
    intro x p q w h e
    cases hw : wd x with
    | some w' =>
      rw [lk_bad hw] at e
      injection e with e
      injection e with e e'
      subst e
      omega
    | none =>
      by_cases hr : ∃ a zs, x = .tup [.str sREP, a, .tup zs]
      · obtain ⟨a, zs, rfl⟩ := hr
        rw [lk_rep hw] at e
        have sy : D.sz (.tup [.str sREP, a, .tup zs]) = 1 + (1 + (D.sz a + (1 + D.szs zs + 0))) := rfl
        cases e1 : gn zs 0 p with
        | error qw =>
          obtain ⟨q', w'⟩ := qw
          rw [e1] at e
          have := gn_len (fun y hy p q w he => ih (by have := szs_mem hy; omega) he) e1
          injection e with e
          injection e with e e'
          subst e
          omega
        | ok mb => rw [e1] at e; cases e
      · rw [lk_leaf hw (fun a ys h => hr ⟨a, ys, h⟩)] at e
        cases e
theorem chk_len {q w : List Nat} (h : chk x = .error (q, w)) : q.length ≤ 1 + D.sz x := by
  by_cases ht : ∃ ys, x = .tup ys
  · obtain ⟨ys, rfl⟩ := ht
    have sy : D.sz (.tup ys) = 1 + D.szs ys := rfl
    have ec : chk (.tup ys) = match gn ys 0 [] with
      | .error e => .error e
      | .ok (m, b) => if 2000 < m ∨ 20 < b then .error ([], wSIZE) else .ok (m, b) := rfl
    rw [ec] at h
    cases e : gn ys 0 [] with
    | error qw =>
      obtain ⟨q', w'⟩ := qw
      rw [e] at h
      dsimp only at h
      have := gn_len (fun y hy p q w he => lk_len (D.sz y) (Nat.le_refl _) he) e
      have z : ([] : List Nat).length = 0 := rfl
      injection h with h
      injection h with h h'
      subst h
      omega
    | ok mb =>
      obtain ⟨m, b⟩ := mb
      rw [e] at h
      dsimp only at h
      split at h
      · injection h with h
        injection h with h h'
        subst h
        exact Nat.zero_le _
      · cases h
  · rw [(not_tup ht).2] at h
    injection h with h
    injection h with h h'
    subst h
    exact Nat.zero_le _
/-! ### _law_held -/
theorem pth_sz (q : List Nat) : D.szs (q.map fun i => D.int (i : Nat)) = q.length := by
  induction q with
  | nil => rfl
  | cons i q ih =>
    show 1 + D.szs (q.map fun i => D.int (i : Nat)) = q.length + 1
    rw [ih]
    omega
theorem held_ok (hM : Cl M) (hg : gd x = true) (hk : dpx x ≤ k) (hd : k + 11 < d) (hz : D.sz x ≤ 900000) : R.f d 31 [x] M = .ok (.bl true) M := by
  have hlim : lim = 16777216 := rfl
  obtain ⟨d, rfl⟩ : ∃ e, d = e + 2 := ⟨d - 2, by omega⟩
  have q1 := lchecked_ok (d := d + 1) hM (by omega) hg (by omega)
  have q2 := told_ok (d := d + 1) hM hk (by omega) (by omega)
  have q3 := iscode_ok (d := d + 1) hM hk (by omega) (by omega)
  have st : ∀ y : D, D.pl y = true → D.sz y ≤ lim → R.f (d + 1) 21 [y, y] M = .ok (.bl true) M := fun y h1 h2 => same_true (d := d) h1 h2 hM
  have sb : ∀ b, R.f (d + 1) 21 [.bl b, .bl b] M = .ok (.bl true) M := fun b => st (.bl b) rfl (by show 1 ≤ 16777216; omega)
  have si : ∀ i, R.f (d + 1) 21 [.int i, .int i] M = .ok (.bl true) M := fun i => st (.int i) rfl (by show 1 ≤ 16777216; omega)
  have fin : endF true M.length (.rt (.bl true) M) = .ok (.bl true) M := endF_vC rfl (by simp) hM
  rw [call_eq (d := d + 1) (t := f_31) rfl rfl, ← fin]
  cases e : chk x with
  | error qw =>
    obtain ⟨q, w⟩ := qw
    rw [e] at q1 q2 q3
    have hl := chk_len e
    have pp : D.pl (pth q) = true := pls_of fun x hx => by
      obtain ⟨i, _, rfl⟩ := List.mem_map.mp hx
      rfl
    have sp : D.sz (pth q) = 1 + q.length := by show 1 + D.szs _ = _; rw [pth_sz]
    have s1 := st (.tup [.str sBAD, pth q, .str w]) (by show (true && (D.pl (pth q) && (true && true))) = true; rw [pp]; rfl) (by show 1 + (1 + (D.sz (pth q) + (1 + 0))) ≤ 16777216; omega)
    dsimp only [dueD, tld, isOk] at q1 q2 q3
    generalize pth q = P at *
    simp -implicitDefEqProofs [f_31, startE, q1, q2, q3, atI_0, s1, sb]
  | ok mb =>
    obtain ⟨m, b⟩ := mb
    rw [e] at q1 q2 q3
    obtain ⟨q4, q5⟩ := size_ok (d := d + 1) hM hk (by omega) (by omega) e
    have s1 := st (.tup [.str sTOLD, .int (m : Nat)]) rfl (by show 1 + (1 + (1 + 0)) ≤ 16777216; omega)
    have cu : cutL [D.str sTOLD, .int (m : Nat), .int (b : Nat)] none (some 2) = [.str sTOLD, .int (m : Nat)] := cutL_to (xs := [D.str sTOLD, .int (m : Nat), .int (b : Nat)]) (k := 2) (by simp)
    dsimp only [dueD, tld, isOk] at q1 q2 q3
    simp -implicitDefEqProofs [f_31, startE, q1, q2, q3, atI_0, atI_1, atI_2, s1, sb, si, cu, q4, q5]
end
end LK

set_option Elab.async false
set_option linter.all false
set_option maxRecDepth 1000000
set_option maxHeartbeats 4000000
namespace LK
open LX
/-! ### what is drawn -/
def strB : D → Bool
  | .str _ => true
  | _ => false
mutual
/-- each thing of three with a tuple last begins with a text -/
def nice : D → Bool
  | .tup [a, b, .tup ys] => strB a && nices ys
  | _ => true
def nices : List D → Bool
  | [] => true
  | x :: xs => nice x && nices xs
end
theorem nices_mem : ∀ {xs : List D} {x : D}, nices xs = true → x ∈ xs → nice x = true
  | y :: ys, x, h, hx => by
    rw [nices, Bool.and_eq_true] at h
    rcases List.mem_cons.mp hx with rfl | hx
    · exact h.1
    · exact nices_mem h.2 hx
theorem nices_of : ∀ {xs : List D}, (∀ x ∈ xs, nice x = true) → nices xs = true
  | [], _ => by rw [nices]
  | x :: xs, h => by
    rw [nices, h x List.mem_cons_self, nices_of fun y hy => h y (List.mem_cons_of_mem _ hy)]
    rfl
theorem nice3 {a b : D} {ys : List D} (ha : strB a = true) (h : nices ys = true) : nice (.tup [a, b, .tup ys]) = true := by
  rw [nice, ha, h]
  rfl
theorem nice3' {a b : D} {ys : List D} (h : nice (.tup [a, b, .tup ys]) = true) : strB a = true ∧ nices ys = true := by
  rw [nice, Bool.and_eq_true] at h
  exact h
/-- a thing that is well, of no more than so much -/
structure W (n k : Nat) (x : D) : Prop where
  g : gd x = true
  c : nice x = true
  z : D.sz x ≤ n
  p : dpx x ≤ k
/-- things that are well, together of no more than so much -/
structure Ws (n k : Nat) (xs : List D) : Prop where
  g : gds xs = true
  c : nices xs = true
  z : D.szs xs ≤ n
  p : dps xs ≤ k
theorem dps_app : ∀ (xs ys : List D), dps (xs ++ ys) = max (dps xs) (dps ys)
  | [], ys => by simp [dps]
  | x :: xs, ys => by
    show dps (x :: (xs ++ ys)) = _
    rw [dps, dps, dps_app xs ys, Nat.max_assoc]
theorem dps_of {k : Nat} : ∀ {xs : List D}, (∀ x ∈ xs, dpx x ≤ k) → dps xs ≤ k
  | [], _ => by rw [dps]; omega
  | x :: xs, h => by
    rw [dps]
    have a := h x List.mem_cons_self
    have b := dps_of fun y hy => h y (List.mem_cons_of_mem _ hy)
    omega
theorem szs_le {n : Nat} : ∀ {xs : List D}, (∀ x ∈ xs, D.sz x ≤ n) → D.szs xs ≤ n * xs.length
  | [], _ => Nat.zero_le _
  | x :: xs, h => by
    have a := h x List.mem_cons_self
    have b := szs_le fun y hy => h y (List.mem_cons_of_mem _ hy)
    show D.sz x + D.szs xs ≤ n * (xs.length + 1)
    rw [Nat.mul_add]
    omega
theorem gds_app {xs ys : List D} (h : gds xs = true) (h' : gds ys = true) : gds (xs ++ ys) = true := gds_of fun x hx => (List.mem_append.mp hx).elim (gds_mem h) (gds_mem h')
theorem nices_app {xs ys : List D} (h : nices xs = true) (h' : nices ys = true) : nices (xs ++ ys) = true := nices_of fun x hx => (List.mem_append.mp hx).elim (nices_mem h) (nices_mem h')
theorem Ws.of {n k m : Nat} {xs : List D} (h : ∀ x ∈ xs, W n k x) (hl : n * xs.length ≤ m) : Ws m k xs :=
  ⟨gds_of fun x hx => (h x hx).g, nices_of fun x hx => (h x hx).c, Nat.le_trans (szs_le fun x hx => (h x hx).z) hl, dps_of fun x hx => (h x hx).p⟩
theorem Ws.mem {n k : Nat} {xs : List D} {x : D} (h : Ws n k xs) (hx : x ∈ xs) : W n k x :=
  ⟨gds_mem h.g hx, nices_mem h.c hx, Nat.le_trans (szs_mem hx) h.z, Nat.le_trans (dps_mem hx) h.p⟩
theorem Ws.up {n k n' k' : Nat} {xs : List D} (h : Ws n k xs) (hn : n ≤ n') (hk : k ≤ k') : Ws n' k' xs := ⟨h.g, h.c, Nat.le_trans h.z hn, Nat.le_trans h.p hk⟩
theorem Ws.app {n k n' k' : Nat} {xs ys : List D} (h : Ws n k xs) (h' : Ws n' k' ys) : Ws (n + n') (max k k') (xs ++ ys) :=
  ⟨gds_app h.g h'.g, nices_app h.c h'.c, by rw [szs_app]; have := h.z; have := h'.z; omega, by rw [dps_app]; have := h.p; have := h'.p; omega⟩
theorem Ws.tup {n k : Nat} {xs : List D} (h : Ws n k xs) (hn : nice (.tup xs) = true) : W (n + 1) (k + 1) (.tup xs) := ⟨h.g, hn, by show 1 + D.szs xs ≤ _; have := h.z; omega, by rw [dpx]; have := h.p; omega⟩
/-! ### _law_colours, _law_instruction -/
theorem colours_okb {t : List Int × Int} {N : MH} {d : Nat} (h : ok t) (hN : Nr N) : ∃ t' s, ok t' ∧ gd (.str s) = true ∧ R.f (d + 3) 25 [.ref 1] (tp t N) = .ok (.str s) (tp t' N) := by
  obtain ⟨r, M', e1, t', l, c1, c2, c3, rfl, rfl⟩ := lc_nx (P := pg) (c := ⟨d + 2, none⟩) (g := .one 1) (all := rngL 0 4) (e := .call 19 [.var 0, .con (.str [65, 66, 90, 75, 65, 66, 65, 66])]) (ρ := [some (.ref 1), none])
    (fun i acc M' => ∃ t l, ok t ∧ l.length = i ∧ (∀ c ∈ l, c < 1114112) ∧ acc = chs l ∧ M' = tp t N) (l := rngL 0 4) (acc := []) (s := 0) (M := tp t N) (by
    rintro i x acc M' hi ⟨t, l, c1, c2, c3, rfl, rfl⟩
    obtain ⟨t1, y, h1, h2, h3⟩ := oneS (s := [65, 66, 90, 75, 65, 66, 65, 66]) (N := N) (d := d) c1 hN (by simp) (by simp)
    refine ⟨_, .str [y], _, rfl, by simp -implicitDefEqProofs [h3], t1, l ++ [y], h1, by simp; omega, fun c hc => ?_, by simp [chs], rfl⟩
    rcases List.mem_append.mp hc with hc | hc
    · exact c3 c hc
    · rw [List.mem_singleton.mp hc]
      simp only [List.mem_cons, List.mem_nil_iff, or_false] at h2
      rcases h2 with rfl | rfl | rfl | rfl | rfl | rfl | rfl | rfl <;> decide) ⟨t, [], h, rfl, fun c hc => (by cases hc), rfl, rfl⟩ (by decide)
  have hl4 : l.length = 4 := c2
  refine ⟨t', l, c1, ?_, ?_⟩
  · show ((l.all fun c => decide (c < 1114112)) && decide (l.length ≤ 1000)) = true
    rw [decide_eq_true (show l.length ≤ 1000 by omega), Bool.and_true, List.all_eq_true]
    exact fun c hc => decide_eq_true (c3 c hc)
  rw [call_eq (t := f_25) rfl rfl]
  have rg := rng1_nat (n := 4) (by decide)
  have hl : l.length ≤ lim := by rw [hl4]; decide
  simp at rg
  simp -implicitDefEqProofs [f_25, startE, rg, wipeE]
  rw [e1]
  simp [join_tl hl]
  exact tp_end0 hN rfl
theorem rng24 : rngS (.int 24) = some (rngL 0 24) := rngS_nat (n := 24) (by decide)
theorem gds_ints : ∀ l : List Int, gds (l.map .int) = true
  | [] => rfl
  | i :: l => gds_ints l
theorem nices_ints : ∀ l : List Int, nices (l.map .int) = true
  | [] => by simp [nices]
  | i :: l => by
    show nices (D.int i :: l.map .int) = true
    rw [nices, nices_ints l]
    simp [nice]
theorem szs_ints (l : List Int) : D.szs (l.map .int) = l.length := by
  induction l with
  | nil => rfl
  | cons i l ih =>
    show 1 + D.szs (l.map .int) = l.length + 1
    rw [ih]
    omega
theorem dps_ints (l : List Int) : dps (l.map .int) = 0 := by
  induction l with
  | nil => rfl
  | cons i l ih =>
    show dps (D.int i :: l.map .int) = 0
    rw [dps, ih]
    rfl
theorem W_str {s z : List Nat} {a : Int} (hs : gd (.str s) = true) (hz : gd (.str z) = true) : W 8 2 (.tup [.str s, .int a, .str z]) :=
  ⟨gds_of fun x hx => by
    simp only [List.mem_cons, List.mem_nil_iff, or_false] at hx
    rcases hx with rfl | rfl | rfl
    · exact hs
    · rfl
    · exact hz, by rw [nice]; simp, by show 4 ≤ 8; omega, by simp [dpx, dps]⟩
theorem instr_ok {t : List Int × Int} {N : MH} {d : Nat} (h : ok t) (hN : Nr N) : ∃ t' x, ok t' ∧ W 8 2 x ∧ R.f (d + 4) 26 [.ref 1] (tp t N) = .ok x (tp t' N) := by
  obtain ⟨t1, w, k1, kw, p1⟩ := pick (N := N) (d := d + 2) h hN (many := 7) (by decide) (by decide)
  rw [call_eq (t := f_26) rfl rfl]
  by_cases w0 : w = 0
  · subst w0
    obtain ⟨t2, v, k2, kv, p2⟩ := pick (N := N) (d := d + 2) k1 hN (many := 24) (by decide) (by decide)
    obtain ⟨t3, y, k3, ky, p3⟩ := one (xs := [.int 0, .int 1, .int 23, .int v]) (N := N) (d := d + 1) k2 hN (by simp) (by simp) (by simp [D.und])
    obtain ⟨t4, s, k4, gs, p4⟩ := colours_okb (N := N) (d := d) k3 hN
    obtain ⟨a, rfl⟩ : ∃ a, y = .int a := by
      simp only [List.mem_cons, List.mem_nil_iff, or_false] at ky
      rcases ky with rfl | rfl | rfl | rfl <;> exact ⟨_, rfl⟩
    have hW : W 8 2 (.tup [.str sTHREAD, .int a, .str s]) := W_str rfl gs
    refine ⟨t4, _, k4, hW, ?_⟩
    rw [← tp_end0 (t := t) (t' := t4) hN (gd_und hW.g)]
    simp at p1
    simp -implicitDefEqProofs [f_26, startE, p1, p2, p3, p4, lim]
  by_cases w1 : w = 1
  · subst w1
    obtain ⟨t2, v, k2, kv, p2⟩ := pick (N := N) (d := d + 2) k1 hN (many := 24) (by decide) (by decide)
    obtain ⟨t3, y, k3, ky, p3⟩ := one (xs := [.int 0, .int 23, .int v]) (N := N) (d := d + 1) k2 hN (by simp) (by simp) (by simp [D.und])
    obtain ⟨a, rfl⟩ : ∃ a, y = .int a := by
      simp only [List.mem_cons, List.mem_nil_iff, or_false] at ky
      rcases ky with rfl | rfl | rfl <;> exact ⟨_, rfl⟩
    obtain ⟨t4, l, k4, m2, m3, p4⟩ := mixed_ok (t := t3) (N := N) (d := d + 1) (xs := rngL 0 24) (fun x => ∃ i, x = .int i) k3 hN (by rintro x ⟨i, rfl⟩; rfl) (fun x hx => by obtain ⟨i, hi⟩ := List.getElem?_of_mem hx; exact ⟨_, (rngL_get hi).2⟩) (by rw [rngL_len]; decide)
    rw [rngL_len] at m2
    obtain ⟨t5, u, k5, ku, p5⟩ := pick (N := N) (d := d + 2) k4 hN (many := 4) (by decide) (by decide)
    obtain ⟨ns, rfl⟩ := ints_of m3
    rw [List.length_map] at m2
    have hu : u < 4 := by omega
    have hc : cutL (ns.map D.int) none (some ((1 + u : Nat) : Int)) = (ns.take (1 + u)).map D.int := by
      rw [cutL_to (by rw [List.length_map]; omega), List.map_take]
    have so := sorted_tl (m := false) (M := tp t5 N) (l := ns.take (1 + u)) (by rw [List.length_take]; omega)
    rw [show ((1 + u : Nat) : Int) = 1 + (u : Int) by omega] at hc
    have hq : (ns.take (1 + u)).length ≤ 4 := by rw [List.length_take]; omega
    generalize ns.take (1 + u) = qs at hc so hq
    have ql : (sortI qs).length ≤ 4 := by rw [sortI_len]; exact hq
    have hW : W 8 2 (.tup [.str sPACK, .int a, .tup ((sortI qs).map .int)]) := ⟨gds_of fun x hx => by
      simp only [List.mem_cons, List.mem_nil_iff, or_false] at hx
      rcases hx with rfl | rfl | rfl
      · rfl
      · rfl
      · exact gds_ints _, nice3 rfl (nices_ints _), by
        show 1 + (1 + (1 + (1 + D.szs ((sortI qs).map .int) + 0))) ≤ 8
        rw [szs_ints]
        omega, by
        simp [dpx, dps, dps_ints]⟩
    refine ⟨t5, _, k5, hW, ?_⟩
    rw [← tp_end0 (t := t) (t' := t5) hN (gd_und hW.g)]
    simp at p1
    generalize (sortI qs).map D.int = Q at *
    generalize qs.map D.int = Q0 at *
    simp -implicitDefEqProofs [f_26, startE, p1, p2, p3, p4, p5, rng24, hc, so, lim]
  have hw0 : ((w : Int) == 0) = false := beq_eq_false_iff_ne.mpr (by omega)
  have hw1 : ((w : Int) == 1) = false := beq_eq_false_iff_ne.mpr (by omega)
  by_cases w5 : w < 5
  · have w5' : (w : Int) < 5 := by omega
    obtain ⟨t3, y, k3, ky, p3⟩ := one (xs := [.int 0, .int 1, .int 23]) (N := N) (d := d + 1) k1 hN (by simp) (by simp) (by simp [D.und])
    obtain ⟨a, rfl⟩ : ∃ a, y = .int a := by
      simp only [List.mem_cons, List.mem_nil_iff, or_false] at ky
      rcases ky with rfl | rfl | rfl <;> exact ⟨_, rfl⟩
    obtain ⟨t4, z, k4, kz, p4⟩ := one (xs := [.str [70], .str [66]]) (N := N) (d := d + 1) k3 hN (by simp) (by simp) (by simp [D.und])
    obtain ⟨s, rfl, gs⟩ : ∃ s, z = .str s ∧ gd (.str s) = true := by
      simp only [List.mem_cons, List.mem_nil_iff, or_false] at kz
      rcases kz with rfl | rfl <;> exact ⟨_, rfl, rfl⟩
    have hW : W 8 2 (.tup [.str sTURN, .int a, .str s]) := W_str rfl gs
    refine ⟨t4, _, k4, hW, ?_⟩
    rw [← tp_end0 (t := t) (t' := t4) hN (gd_und hW.g)]
    simp -implicitDefEqProofs [f_26, startE, p1, hw0, hw1, w5', p3, p4, lim]
  · have w5' : ¬ (w : Int) < 5 := by omega
    have hW : W 8 2 (.tup [.str sTHROW]) := ⟨rfl, by simp [nice], by show 2 ≤ 8; omega, by simp [dpx, dps]⟩
    refine ⟨t1, _, k1, hW, ?_⟩
    rw [← tp_end0 (t := t) (t' := t1) hN (gd_und hW.g)]
    simp -implicitDefEqProofs [f_26, startE, p1, hw0, hw1, w5', lim]
/-- some instructions -/
theorem instrs_ok {t : List Int × Int} {N : MH} {d n : Nat} {c : Cf} {ρ : LX.Env} {slot : Nat} (ts : Nat) (hc : c.d = d + 4) (h : ok t) (hN : Nr N) (h0 : ∀ v, (ρ.set slot v)[ts]? = some (some (.ref 1))) (hn : n ≤ 1000) :
    ∃ t' xs, ok t' ∧ (∀ x ∈ xs, W 8 2 x) ∧ xs.length = n ∧ lcL R c (.one slot) (rngL 0 n) none none (.call 26 [.var ts]) ρ (rngL 0 n) [] (tp t N) = .ok xs (tp t' N) := by
  obtain ⟨r, M', e1, t', c1, rfl, c4, c5⟩ := lc_nx (P := pg) (c := c) (g := .one slot) (all := rngL 0 n) (e := .call 26 [.var ts]) (ρ := ρ)
    (fun i acc M' => ∃ t, ok t ∧ M' = tp t N ∧ (∀ x ∈ acc, W 8 2 x) ∧ acc.length = i) (l := rngL 0 n) (acc := []) (s := 0) (M := tp t N) (by
    rintro i x acc M' hi ⟨t, c1, rfl, c4, c5⟩
    obtain ⟨t1, y, k1, k3, k4⟩ := instr_ok (d := d) c1 hN
    rw [← hc] at k4
    refine ⟨_, y, _, rfl, by simp -implicitDefEqProofs [h0, k4], t1, k1, rfl, fun z hz => ?_, by simp; omega⟩
    rcases List.mem_append.mp hz with hz | hz
    · exact c4 z hz
    · rw [List.mem_singleton.mp hz]
      exact k3) ⟨t, h, rfl, fun x hx => (by cases hx), rfl⟩ (by rw [rngL_len, List.length_nil]; have : lim = 16777216 := rfl; omega)
  rw [rngL_len] at c5
  exact ⟨t', r, c1, c4, by omega, e1⟩
abbrev rp (n : Nat) (xs : List D) : D := .tup [.str sREP, .int (n : Nat), .tup xs]
def b27 : List S := [.ite (.cmp .Gt (.fn false .len [.var 2]) (.con (.int 0))) [.set 5 (.call 18 [.var 0, .fn false .len [.var 2]]), .set 6 (.bin false .Add (.con (.int 1)) (.call 18 [.var 0, .fn false .min2 [.con (.int 4), .bin false .Sub (.fn false .len [.var 2]) (.var 5)]])), .set 2 (.bin false .Add (.bin false .Add (.cut false (.var 2) none (some (.var 5))) (.lst false [.tup [.con (.str sREP), .call 19 [.var 0, .lst false [.con (.int 2), .con (.int 40), .bin false .Add (.con (.int 2)) (.call 18 [.var 0, .con (.int 5)])]], .fn false .tuple [.cut false (.var 2) (some (.var 5)) (some (.bin false .Add (.var 5) (.var 6)))]]])) (.cut false (.var 2) (some (.bin false .Add (.var 5) (.var 6))) none))] []]
theorem Ws.sub {n k : Nat} {xs ys : List D} (h : Ws n k xs) (hs : ∀ y ∈ ys, y ∈ xs) (hz : D.szs ys ≤ n) : Ws n k ys := ⟨gds_of fun y hy => gds_mem h.g (hs y hy), nices_of fun y hy => nices_mem h.c (hs y hy), hz, dps_of fun y hy => Nat.le_trans (dps_mem (hs y hy)) h.p⟩
theorem Ws.parts {xs : List D} {n k i m : Nat} (v : Nat) (h : Ws n k xs) : Ws (n + 4) (k + 2) (xs.take i ++ [rp v ((xs.drop i).take m)] ++ xs.drop (i + m)) := by
  have e : xs = xs.take i ++ ((xs.drop i).take m ++ xs.drop (i + m)) := by
    rw [← List.drop_drop, List.take_append_drop, List.take_append_drop]
  have hz : D.szs xs = D.szs (xs.take i) + (D.szs ((xs.drop i).take m) + D.szs (xs.drop (i + m))) := by
    conv => lhs; rw [e]
    rw [szs_app, szs_app]
  have h1 : ∀ y ∈ xs.take i, y ∈ xs := fun y => List.mem_of_mem_take
  have h2 : ∀ y ∈ (xs.drop i).take m, y ∈ xs := fun y hy => List.mem_of_mem_drop (List.mem_of_mem_take hy)
  have h3 : ∀ y ∈ xs.drop (i + m), y ∈ xs := fun y => List.mem_of_mem_drop
  have nz := h.z
  have kp := h.p
  have w2 := h.sub h2 (by omega)
  have w1 := h.sub h1 (by omega)
  have w3 := h.sub h3 (by omega)
  have dp := w2.p
  have p1 := w1.p
  have p3 := w3.p
  have sr : D.sz (rp v ((xs.drop i).take m)) = 1 + (1 + (1 + (1 + D.szs ((xs.drop i).take m) + 0))) := rfl
  have sr1 : D.szs [rp v ((xs.drop i).take m)] = D.sz (rp v ((xs.drop i).take m)) + 0 := rfl
  refine ⟨gds_app (gds_app w1.g (gds_of fun x hx => ?_)) w3.g, nices_app (nices_app w1.c (nices_of fun x hx => ?_)) w3.c, ?_, ?_⟩
  · rw [List.mem_singleton.mp hx]
    exact gds_of fun y hy => by
      simp only [List.mem_cons, List.mem_nil_iff, or_false] at hy
      rcases hy with rfl | rfl | rfl
      · rfl
      · rfl
      · exact w2.g
  · rw [List.mem_singleton.mp hx]
    exact nice3 rfl w2.c
  · rw [szs_app, szs_app, sr1, sr]
    omega
  · rw [dps_app, dps_app]
    have e1 : dps [rp v ((xs.drop i).take m)] = 1 + (1 + dps ((xs.drop i).take m)) := by simp [dps, dpx]
    rw [e1]
    omega
theorem code_ok {t : List Int × Int} {N : MH} {d : Nat} (h : ok t) (hN : Nr N) : ∃ t' xs, ok t' ∧ Ws 68 8 xs ∧ R.f (d + 5) 27 [.ref 1, .int 7] (tp t N) = .ok (.tup xs) (tp t' N) := by
  have hlim : lim = 16777216 := rfl
  obtain ⟨t1, n, k1, kn, p1⟩ := pick (N := N) (d := d + 3) h hN (many := 8) (by decide) (by decide)
  obtain ⟨t2, xs, k2, lx, ll, p2⟩ := instrs_ok (d := d) (n := n) (c := ⟨d + 4, none⟩) (ρ := [some (.ref 1), some (.int 7), none, none, none, none, none]) (slot := 4) 0 rfl k1 hN (fun v => rfl) (by omega)
  obtain ⟨t3, q, k3, kq, p3⟩ := pick (N := N) (d := d + 3) k2 hN (many := 4) (by decide) (by decide)
  have wx : Ws (56 + 4 * 0) (2 + 2 * 0) xs := Ws.of lx (by omega)
  obtain ⟨ρ2, M2, e1, t4, ys, o3, o5, o6, c1, c3, rfl, rfl⟩ := for_nx (P := pg) (c := ⟨d + 4, none⟩) (g := .one 3) (all := rngL 0 q) (b := b27)
    (fun i ρ M' => ∃ t xs o3 o5 o6, ok t ∧ Ws (56 + 4 * i) (2 + 2 * i) xs ∧ M' = tp t N ∧ ρ = [some (.ref 1), some (.int 7), some (.tl xs), o3, none, o5, o6]) (l := rngL 0 q) (s := 0) (ρ := [some (.ref 1), some (.int 7), some (.tl xs), none, none, none, none]) (M := tp t3 N) (by
    rintro i x ρ M' hi ⟨t, xs, o3, o5, o6, c1, c3, rfl, rfl⟩
    obtain ⟨hi, rfl⟩ := rngL_get hi
    rw [Nat.zero_add] at c3 ⊢
    by_cases hx : xs = []
    · subst hx
      refine ⟨_, [some (.ref 1), some (.int 7), some (.tl []), some (.int i), none, o5, o6], tp t N, rfl, .inl ?_, t, [], _, _, _, c1, c3.up (by omega) (by omega), rfl, rfl⟩
      simp -implicitDefEqProofs [b27]
    · have hl := len_szs xs
      have hz := c3.z
      have hp : 0 < xs.length := List.length_pos_iff.mpr hx
      obtain ⟨t1, at', k1, ka, p1⟩ := pick (N := N) (d := d + 3) c1 hN (many := (xs.length : Int)) (by omega) (by omega)
      have ha : at' < xs.length := by omega
      obtain ⟨t2, sz, k2, ks, p2⟩ := pick (N := N) (d := d + 3) k1 hN (many := if (xs.length : Int) - at' < 4 then (xs.length : Int) - at' else 4) (by split <;> omega) (by split <;> omega)
      have hs : at' + (1 + sz) ≤ xs.length ∧ sz < 4 := by split at ks <;> omega
      obtain ⟨t3, v, k3, kv, p3⟩ := pick (N := N) (d := d + 3) k2 hN (many := 5) (by decide) (by decide)
      obtain ⟨t4, y, k4, ky, p4⟩ := one (xs := [.int 2, .int 40, .int (2 + v)]) (N := N) (d := d + 2) k3 hN (by simp) (by simp) (by simp [D.und])
      obtain ⟨m, rfl⟩ : ∃ m : Nat, y = .int m := by
        simp only [List.mem_cons, List.mem_nil_iff, or_false] at ky
        rcases ky with rfl | rfl | rfl
        · exact ⟨2, rfl⟩
        · exact ⟨40, rfl⟩
        · exact ⟨2 + v, rfl⟩
      have g1 := cutL_to (xs := xs) (k := at') (by omega)
      have g2 := cutL_mid (xs := xs) (i := at') (k := 1 + sz) hs.1
      have g3 := cutL_from (xs := xs) (k := at' + (1 + sz)) hs.1
      have e5 : ((at' + (1 + sz) : Nat) : Int) = (at' : Int) + (1 + (sz : Int)) := by omega
      rw [e5] at g2 g3
      have z1 := add_tl (m := false) (M := tp t4 N) (xs := xs.take at') (ys := [rp m ((xs.drop at').take (1 + sz))]) (by rw [List.length_take, hlim]; simp; omega)
      have z2 := add_tl (m := false) (M := tp t4 N) (xs := xs.take at' ++ [rp m ((xs.drop at').take (1 + sz))]) (ys := xs.drop (at' + (1 + sz))) (by rw [List.length_append, List.length_take, List.length_drop, hlim]; simp; omega)
      refine ⟨_, [some (.ref 1), some (.int 7), some (.tl (xs.take at' ++ [rp m ((xs.drop at').take (1 + sz))] ++ xs.drop (at' + (1 + sz)))), some (.int i), none, some (.int at'), some (.int (1 + sz))], tp t4 N, rfl, .inl ?_, t4, _, _, _, _, k4, (c3.parts m).up (by omega) (by omega), rfl, rfl⟩
      simp -implicitDefEqProofs [b27, hp, p1, p2, p3, p4, g1, g2, g3, z1, z2, lim]) ⟨t3, xs, none, none, none, k3, wx, rfl, rfl⟩
  rw [rngL_len, Nat.zero_add] at c3
  have hW : Ws 68 8 ys := c3.up (by omega) (by omega)
  refine ⟨t4, ys, c1, hW, ?_⟩
  rw [call_eq (t := f_27) rfl rfl]
  have eb : f_27.body = [.set 2 (.lc false [4] (.one 4) (.rng1 (.call 18 [.var 0, .bin false .Add (.var 1) (.con (.int 1))])) none (.call 26 [.var 0])), .for (.one 3) (.rng1 (.call 18 [.var 0, .con (.int 4)])) b27, .ret (.fn false .tuple [.var 2])] := rfl
  show endF true (tp t N).length (R.ss ⟨d + 4, none⟩ f_27.body (startE 7 [.ref 1, .int 7]) (tp t N)) = _
  rw [eb, ← tp_end0 (t := t) (t' := t4) (x := .tup ys) hN (gds_und hW.g)]
  have r1 := rng1_nat (n := n) (by rw [hlim]; omega)
  have r2 := rng1_nat (n := q) (by rw [hlim]; omega)
  simp -implicitDefEqProofs [startE, p1, r1, wipeE]
  rw [p2]
  simp -implicitDefEqProofs [p3, r2]
  rw [e1]
  simp
end LK

set_option Elab.async false
set_option linter.all false
set_option maxRecDepth 1000000
set_option maxHeartbeats 4000000
namespace LX
theorem cutL_from' {α : Type} {xs : List α} {k : Nat} : cutL xs (some (k : Int)) none = xs.drop k := by
  by_cases h : k ≤ xs.length
  · exact cutL_from h
  · unfold cutL
    have e1 : HT.sIx xs.length 0 (some (k : Int)) = xs.length := by
      show (if (k : Int) < 0 then ((k : Int) + (xs.length : Int)).toNat else min (k : Int).toNat xs.length) = xs.length
      rw [if_neg (by omega), Int.toNat_natCast]
      omega
    have e2 : HT.sIx xs.length xs.length none = xs.length := rfl
    rw [e1, e2, List.drop_of_length_le (Nat.le_refl _), List.drop_of_length_le (by omega), List.take_nil]
end LX
namespace LK
open LX
/-! ### _law_odd -/
theorem pw50 {m : Bool} {M : MH} : binD m M .Pow (.int 10) (.int 50) = .ok (.int 100000000000000000000000000000000000000000000000000) M := by
  have e : binD m M .Pow (.int 10) (.int 50) = if decide ((0 : Int) ≤ 50) && decide ((50 : Int) ≤ 1000000) && decide ((10 : Int).natAbs < 2 ^ 64) then .ok (.int (10 ^ (50 : Int).toNat)) M else .stuck := rfl
  rw [e, if_pos (by decide)]
  rfl
abbrev dTHROW : D := .tup [.str sTHROW]
abbrev tr (a b : D) : D := .tup [.str sTURN, a, b]
abbrev th (a b : D) : D := .tup [.str sTHREAD, a, b]
abbrev pk (a b : D) : D := .tup [.str sPACK, a, b]
abbrev rq (a b : D) : D := .tup [.str sREP, a, b]
def oW : List D := [.non, .tup [], .tup [.str sTHROW, .int 0], .tl [.str sTHROW], .tup [.str sTURN, .int 0], .tup [.str [108, 111, 111, 112], .int 2, .tup [dTHROW]], .str sTHROW, .int 7, .tup [.str sTURN, .int 0, .str [70], .int 0], .tup [.int 0, .int 1, .int 2], .tup [.str [84, 104, 114, 111, 119]]]
def oT1 : List D := [tr (.int 24) (.str [70]), tr (.bl true) (.str [70]), tr (.int 0) (.str [102]), tr (.int 0) (.str [70, 66]), tr (.int 0) (.str [])]
def oT2 : List D := [tr (.int (-1)) (.str [66]), tr (.int 24) (.str [88]), tr (.int 0) .non, tr (.int 23) (.str [66]), tr (.str [48]) (.str [70])]
def oH1 : List D := [th (.int 24) (.str [65, 65, 65, 65]), th (.int 0) (.str [65, 65, 65]), th (.int 0) (.str [65, 65, 65, 65, 65]), th (.int 0) (.str [65, 65, 65, 97]), th (.int 0) (.tup [.str [65], .str [66], .str [65], .str [66]])]
def oH2 : List D := [th (.str [48]) (.str [65, 65, 65, 65]), th (.int (-1)) (.str [97, 97, 97, 97]), th (.int 23) (.str [90, 90, 90, 90]), th (.bl false) (.str [65, 65, 65, 65])]
def oP1 : List D := [pk (.int 0) (.tup []), pk (.int 0) (.tup [.int 1, .int 1]), pk (.int 0) (.tup [.int 2, .int 1]), pk (.int 0) (.tl [.int 1]), pk (.int 0) (.tup [.int 24]), pk (.int 24) (.tup [])]
def oP2 : List D := [pk (.int 0) (.tup [.bl true]), pk (.int 0) (.int 1), pk (.int 0) (.tup [.int 0, .int 23]), pk (.int 100000000000000000000000000000000000000000000000000) (.tup [.int 0]), pk (.int 0) (.tup [.int 0, .int (-1)])]
def oR1 : List D := [rq (.int 1) (.tup [dTHROW]), rq (.int 41) (.tup [dTHROW]), rq (.int 2) (.tup []), rq (.int 2) (.tl [dTHROW]), rq (.bl true) (.tup [])]
def oR2 : List D := [rq (.int 1) (.tup []), rq (.int 2) (.tup [.str sTHROW]), rq (.int 2) (.tup [dTHROW, .non]), rq (.int 40) (.tup [dTHROW]), rq (.int 2) dTHROW]
def wB (n k : Nat) (x : D) : Bool := gd x && (nice x && (decide (D.sz x ≤ n) && decide (dpx x ≤ k)))
theorem W_of {n k : Nat} {x : D} (h : wB n k x = true) : W n k x := by
  unfold wB at h
  rw [Bool.and_eq_true, Bool.and_eq_true, Bool.and_eq_true, decide_eq_true_eq, decide_eq_true_eq] at h
  exact ⟨h.1, h.2.1, h.2.2.1, h.2.2.2⟩
theorem odd_all : ([oW, oT1 ++ oT2, oH1 ++ oH2, oP1 ++ oP2, oR1 ++ oR2].all fun l => l.all (wB 8 3)) = true := by decide +kernel
theorem odd_all' : ∀ l ∈ [oW, oT1 ++ oT2, oH1 ++ oH2, oP1 ++ oP2, oR1 ++ oR2], ∀ x ∈ l, W 8 3 x := fun l hl x hx => W_of (List.all_eq_true.mp (List.all_eq_true.mp odd_all l hl) x hx)
theorem odd_ok {t : List Int × Int} {N : MH} {d : Nat} (h : ok t) (hN : Nr N) : ∃ t' x, ok t' ∧ W 8 3 x ∧ R.f (d + 3) 29 [.ref 1] (tp t N) = .ok x (tp t' N) := by
  have us : ∀ l ∈ [oW, oT1 ++ oT2, oH1 ++ oH2, oP1 ++ oP2, oR1 ++ oR2], D.undAll 0 l = true := fun l hl => unds_of fun x hx => gd_und (odd_all' l hl x hx).g
  obtain ⟨t1, y, k1, ky, p1⟩ := one (xs := [.tl oW, .tl (oT1 ++ oT2), .tl (oH1 ++ oH2), .tl (oP1 ++ oP2), .tl (oR1 ++ oR2)]) (N := N) (d := d) h hN (by simp) (by simp) (fun x hx => by
    simp only [List.mem_cons, List.mem_nil_iff, or_false] at hx
    rcases hx with rfl | rfl | rfl | rfl | rfl
    · exact us oW (by simp)
    · exact us (oT1 ++ oT2) (by simp)
    · exact us (oH1 ++ oH2) (by simp)
    · exact us (oP1 ++ oP2) (by simp)
    · exact us (oR1 ++ oR2) (by simp))
  obtain ⟨l, hl, rfl⟩ : ∃ l, l ∈ [oW, oT1 ++ oT2, oH1 ++ oH2, oP1 ++ oP2, oR1 ++ oR2] ∧ y = .tl l := by
    simp only [List.mem_cons, List.mem_nil_iff, or_false] at ky
    rcases ky with rfl | rfl | rfl | rfl | rfl
    · exact ⟨oW, by simp, rfl⟩
    · exact ⟨oT1 ++ oT2, by simp, rfl⟩
    · exact ⟨oH1 ++ oH2, by simp, rfl⟩
    · exact ⟨oP1 ++ oP2, by simp, rfl⟩
    · exact ⟨oR1 ++ oR2, by simp, rfl⟩
  have ll : 0 < l.length ∧ l.length < 1000000 := by
    simp only [List.mem_cons, List.mem_nil_iff, or_false] at hl
    rcases hl with rfl | rfl | rfl | rfl | rfl <;> exact ⟨by decide, by decide⟩
  obtain ⟨t2, x, k2, kx, p2⟩ := one (xs := l) (N := N) (d := d) k1 hN (List.length_pos_iff.mp ll.1) ll.2 (fun x hx => gd_und (odd_all' l hl x hx).g)
  have hW := odd_all' l hl x kx
  refine ⟨t2, x, k2, hW, ?_⟩
  rw [call_eq (t := f_29) rfl rfl, ← tp_end0 (t := t) (t' := t2) hN (gd_und hW.g)]
  have a1 := add_tl (m := false) (M := tp t N) (xs := oT1) (ys := oT2) (by decide)
  have a2 := add_tl (m := false) (M := tp t N) (xs := oH1) (ys := oH2) (by decide)
  have a3 := add_tl (m := false) (M := tp t N) (xs := oP1) (ys := oP2) (by decide)
  have a4 := add_tl (m := false) (M := tp t N) (xs := oR1) (ys := oR2) (by decide)
  have eb : ∃ e2 e31 e32 e41 e42 e51 e52 e61 e62, f_29.body = [.set 1 (.tup [.con (.str sTHROW)]), .set 2 e2, .set 3 e31, .set 3 (.bin false .Add (.var 3) e32), .set 4 e41, .set 4 (.bin false .Add (.var 4) e42), .set 5 e51, .set 5 (.bin false .Add (.var 5) e52), .set 6 e61, .set 6 (.bin false .Add (.var 6) e62), .ret (.call 19 [.var 0, .call 19 [.var 0, .lst false [.var 2, .var 3, .var 4, .var 5, .var 6]]])]
      ∧ (∀ c a b e f g h M, R.e c e2 [a, some dTHROW, b, e, f, g, h] M = .ok (.tl oW) M)
      ∧ (∀ c a b e f g h M, R.e c e31 [a, some dTHROW, b, e, f, g, h] M = .ok (.tl oT1) M)
      ∧ (∀ c a b e f g h M, R.e c e32 [a, some dTHROW, b, e, f, g, h] M = .ok (.tl oT2) M)
      ∧ (∀ c a b e f g h M, R.e c e41 [a, some dTHROW, b, e, f, g, h] M = .ok (.tl oH1) M)
      ∧ (∀ c a b e f g h M, R.e c e42 [a, some dTHROW, b, e, f, g, h] M = .ok (.tl oH2) M)
      ∧ (∀ c a b e f g h M, R.e c e51 [a, some dTHROW, b, e, f, g, h] M = .ok (.tl oP1) M)
      ∧ (∀ c a b e f g h M, R.e c e52 [a, some dTHROW, b, e, f, g, h] M = .ok (.tl oP2) M)
      ∧ (∀ c a b e f g h M, R.e c e61 [a, some dTHROW, b, e, f, g, h] M = .ok (.tl oR1) M)
      ∧ (∀ c a b e f g h M, R.e c e62 [a, some dTHROW, b, e, f, g, h] M = .ok (.tl oR2) M) := by
    refine ⟨_, _, _, _, _, _, _, _, _, rfl, ?_, ?_, ?_, ?_, ?_, ?_, ?_, ?_, ?_⟩
    · intro c a b e f g h M; simp -implicitDefEqProofs [lim, oW]
    · intro c a b e f g h M; simp -implicitDefEqProofs [lim, oT1]
    · intro c a b e f g h M; simp -implicitDefEqProofs [lim, oT2]
    · intro c a b e f g h M; simp -implicitDefEqProofs [lim, oH1]
    · intro c a b e f g h M; simp -implicitDefEqProofs [lim, oH2]
    · intro c a b e f g h M; simp -implicitDefEqProofs [lim, oP1]
    · intro c a b e f g h M; simp -implicitDefEqProofs [lim, oP2, pw50]
    · intro c a b e f g h M; simp -implicitDefEqProofs [lim, oR1]
    · intro c a b e f g h M; simp -implicitDefEqProofs [lim, oR2]
  obtain ⟨e2, e31, e32, e41, e42, e51, e52, e61, e62, eb, v2, v31, v32, v41, v42, v51, v52, v61, v62⟩ := eb
  show endF true (tp t N).length (R.ss ⟨d + 2, none⟩ f_29.body [some (.ref 1), none, none, none, none, none, none] (tp t N)) = _
  rw [eb]
  generalize oT1 ++ oT2 = T at *
  generalize oH1 ++ oH2 = H at *
  generalize oP1 ++ oP2 = P at *
  generalize oR1 ++ oR2 = Q at *
  generalize oW = W0 at *
  generalize oT1 = T1 at *
  generalize oT2 = T2 at *
  generalize oH1 = H1 at *
  generalize oH2 = H2 at *
  generalize oP1 = P1 at *
  generalize oP2 = P2 at *
  generalize oR1 = R1 at *
  generalize oR2 = R2 at *
  simp -implicitDefEqProofs [v2, v31, v32, v41, v42, v51, v52, v61, v62, a1, a2, a3, a4, p1, p2, lim]
end LK

set_option Elab.async false
set_option linter.all false
set_option maxRecDepth 1000000
set_option maxHeartbeats 4000000
namespace LK
open LX
/-! ### _law_bent -/
def insB : D → Bool
  | .tup [.str s, _, .tup _] => s == sREP
  | _ => false
theorem insB_of {x : D} (h : insB x = true) : ∃ b zs, x = .tup [.str sREP, b, .tup zs] := by
  unfold insB at h
  split at h
  · rename_i s b zs
    rw [beq_iff_eq] at h
    subst h
    exact ⟨b, zs, rfl⟩
  · cases h
abbrev Lv : Type := List D × Nat
def pe (e : Lv) : D := .tup [.tup e.1, .int (e.2 : Nat)]
/-- the way into a code, innermost first -/
inductive Ch (n k : Nat) : List Lv → List D → Prop
  | base {xs : List D} : Ws n k xs → Ch n k [] xs
  | step {P : List Lv} {r zs : List D} {i : Nat} {b : D} : Ch n k P r → r[i]? = some (.tup [.str sREP, b, .tup zs]) → Ch n k ((r, i) :: P) zs
theorem Ch.ws {n k : Nat} {P : List Lv} {r : List D} (h : Ch n k P r) : Ws n k r := by
  induction h with
  | base h => exact h
  | step h hi ih =>
    rename_i P r zs i b
    have w := ih.mem (List.mem_of_getElem? hi)
    have g : gd (.tup zs) = true := gds_mem (xs := [.str sREP, b, .tup zs]) w.g (by simp)
    have z := w.z
    have sy : D.sz (.tup [.str sREP, b, .tup zs]) = 1 + (1 + (D.sz b + (1 + D.szs zs + 0))) := rfl
    have p := w.p
    have dy : dpx (.tup [.str sREP, b, .tup zs]) = 1 + max 0 (max (dpx b) (max (1 + dps zs) 0)) := by simp [dpx, dps]
    exact ⟨g, (nice3' w.c).2, by omega, by omega⟩
theorem Ch.len {n k : Nat} {P : List Lv} {r : List D} (h : Ch n k P r) : P.length + D.szs r ≤ n := by
  induction h with
  | base h =>
    have := h.z
    simpa using this
  | step h hi ih =>
    rename_i P r zs i b
    have z := szs_mem (List.mem_of_getElem? hi)
    have sy : D.sz (.tup [.str sREP, b, .tup zs]) = 1 + (1 + (D.sz b + (1 + D.szs zs + 0))) := rfl
    rw [List.length_cons]
    omega
theorem Ch.mem {n k : Nat} {P : List Lv} {r : List D} (h : Ch n k P r) : ∀ e ∈ P, gds e.1 = true := by
  induction h with
  | base h => intro e he; cases he
  | step h hi ih =>
    rename_i P r zs i b
    intro e he
    rcases List.mem_cons.mp he with rfl | he
    · exact h.ws.g
    · exact ih e he
theorem Ch.und {n k : Nat} {P : List Lv} {r : List D} (h : Ch n k P r) : D.undAll 0 (P.reverse.map pe) = true := unds_of fun x hx => by
  obtain ⟨e, he, rfl⟩ := List.mem_map.mp hx
  have g := h.mem e (List.mem_reverse.mp he)
  show (D.undAll 0 e.1 && (true && true)) = true
  rw [gds_und g]
  rfl
def q30 : E := .and (.isi [.tuple] (.ix (.var 3) (.var 8))) (.and (.cmp .Eq (.fn false .len [.ix (.var 3) (.var 8)]) (.con (.int 3))) (.and (.isi [.tuple] (.ix (.ix (.var 3) (.var 8)) (.con (.int 2)))) (.cmp .Eq (.ix (.ix (.var 3) (.var 8)) (.con (.int 0))) (.con (.str sREP)))))
def c30 : E := .lc false [8] (.one 8) (.rng1 (.fn false .len [.var 3])) (some q30) (.var 8)
def b30 : List S := [.set 5 c30, .ite (.or (.cmp .Eq (.fn false .len [.var 5]) (.con (.int 0))) (.cmp .Eq (.call 18 [.var 0, .con (.int 3)]) (.con (.int 0)))) [.brk] [], .expr (.meth .append (.var 2) [.tup [.var 3, .call 19 [.var 0, .var 5]]]), .set 3 (.ix (.ix (.ix (.ix (.var 2) (.neg (.con (.int 1)))) (.con (.int 0))) (.ix (.ix (.var 2) (.neg (.con (.int 1)))) (.con (.int 1)))) (.con (.int 2)))]
def p30 : List S := [.set 3 (.bin false .Add (.bin false .Add (.cut false (.var 6) none (some (.var 7))) (.tup [.bin false .Add (.cut false (.ix (.var 6) (.var 7)) none (some (.con (.int 2)))) (.tup [.var 3])])) (.cut false (.var 6) (some (.bin false .Add (.var 7) (.con (.int 1)))) none))]
section
variable {d : Nat} {N : MH}
theorem q30_ok {c : Cf} {rest : List D} {i : Nat} {y : D} {a0 a1 a2 a4 a5 a6 a7 : Option D} {M : MH} (hy : rest[i]? = some y) (hn : nice y = true) : R.e c q30 [a0, a1, a2, some (.tup rest), a4, a5, a6, a7, some (.int (i : Nat))] M = .ok (.bl (insB y)) M := by
  cases y with
  | tup l =>
    match l with
    | [] => simp -implicitDefEqProofs [q30, atI_at, hy, isKind, kindOf, insB]
    | [x] => simp -implicitDefEqProofs [q30, atI_at, hy, isKind, kindOf, insB]
    | [x, z] => simp -implicitDefEqProofs [q30, atI_at, hy, isKind, kindOf, insB]
    | x :: z :: w :: v :: r =>
      have nb : (((r.length : Int) + 1 + 1 + 1 + 1) == 3) = false := beq_eq_false_iff_ne.mpr (by omega)
      simp -implicitDefEqProofs [q30, atI_at, hy, isKind, kindOf, insB, nb]
    | [x, z, w] =>
      cases w with
      | tup zs =>
        have hs := (nice3' hn).1
        cases x with
        | str s => simp -implicitDefEqProofs [q30, atI_at, hy, isKind, kindOf, insB, atI_2, atI_0]
        | _ => cases hs
      | _ => simp -implicitDefEqProofs [q30, atI_at, hy, isKind, kindOf, insB, atI_2]
  | _ => simp -implicitDefEqProofs [q30, atI_at, hy, isKind, kindOf, insB]
def qI (rest : List D) : D → Bool
  | .int i => insB ((rest[i.toNat]?).getD .non)
  | _ => false
theorem c30_ok {c : Cf} {rest : List D} {a0 a1 a2 a4 a5 a6 a7 a8 : Option D} {M : MH} (hn : nices rest = true) (hl : rest.length ≤ lim) : R.e c c30 [a0, a1, a2, some (.tup rest), a4, a5, a6, a7, a8] M = .ok (.tl ((rngL 0 rest.length).filter (qI rest))) M := by
  have rg := rng1_nat hl
  have lc : lcL R c (.one 8) (rngL 0 rest.length) none (some q30) (.var 8) [a0, a1, a2, some (.tup rest), a4, a5, a6, a7, none] (rngL 0 rest.length) [] M = .ok ([] ++ ((rngL 0 rest.length).filter (qI rest)).map id) M :=
    lc_fil id (qI rest) (fun x hx => by
      obtain ⟨i, hi⟩ := List.getElem?_of_mem hx
      obtain ⟨hil, rfl⟩ := rngL_get hi
      have g : rest[i]? = some rest[i] := List.getElem?_eq_getElem hil
      have q := q30_ok (c := c) (a0 := a0) (a1 := a1) (a2 := a2) (a4 := a4) (a5 := a5) (a6 := a6) (a7 := a7) (M := M) g (nices_mem hn (List.getElem_mem hil))
      have e : qI rest (.int (0 + (i : Int))) = insB rest[i] := by
        show insB ((rest[(0 + (i : Int)).toNat]?).getD .non) = _
        rw [Int.zero_add, Int.toNat_natCast, g]
        rfl
      rw [e, Int.zero_add]
      exact ⟨_, rfl, q, fun _ => by simp⟩) (by rw [rngL_len]; simpa using hl)
  rw [List.nil_append, List.map_id] at lc
  unfold c30
  simp -implicitDefEqProofs [rg, wipeE]
  rw [lc]
  simp
theorem J30 {t : List Int × Int} {xs : List D} {n k : Nat} (h : ok t) (hN : Nr N) (hx : Ws n k xs) (hn : n ≤ 1000) {o4 o5 o6 o7 o8 : Option D} : ∃ t' P rest o5', ok t' ∧ Ch n k P rest ∧
    R.s ⟨d + 3, none⟩ (.wh (.truth (.con (.bl true))) b30) [some (.ref 1), some (.tup xs), some (.ref (N.length + 2)), some (.tup xs), o4, o5, o6, o7, o8] (tp t (N ++ [.lst []])) = .nx [some (.ref 1), some (.tup xs), some (.ref (N.length + 2)), some (.tup rest), o4, o5', o6, o7, o8] (tp t' (N ++ [.lst (P.reverse.map pe)])) := by
  have hlim : lim = 16777216 := rfl
  have key := wh_ex (c := ⟨d + 3, none⟩) (t := .truth (.con (.bl true))) (b := b30)
    (fun m ρ M' => ∃ t P rest o5, ok t ∧ Ch n k P rest ∧ m = D.szs rest ∧ M' = tp t (N ++ [.lst (P.reverse.map pe)]) ∧ ρ = [some (.ref 1), some (.tup xs), some (.ref (N.length + 2)), some (.tup rest), o4, o5, o6, o7, o8])
    (fun _ _ => False)
    (fun ρ M' => ∃ t P rest o5, ok t ∧ Ch n k P rest ∧ M' = tp t (N ++ [.lst (P.reverse.map pe)]) ∧ ρ = [some (.ref 1), some (.tup xs), some (.ref (N.length + 2)), some (.tup rest), o4, o5, o6, o7, o8])
    (by
      rintro m ρ M' ⟨t, P, rest, o5, k1, hC, rfl, rfl, rfl⟩
      right
      refine ⟨by simp, ?_⟩
      have w := hC.ws
      have wz := w.z
      have lr := len_szs rest
      have cc := c30_ok (c := ⟨d + 3, none⟩) (rest := rest) (a0 := some (.ref 1)) (a1 := some (.tup xs)) (a2 := some (.ref (N.length + 2))) (a4 := o4) (a5 := o5) (a6 := o6) (a7 := o7) (a8 := o8) (M := tp t (N ++ [.lst (P.reverse.map pe)])) w.c (by omega)
      have hN' : Nr (N ++ [.lst (P.reverse.map pe)]) := hN.app (.cons hC.und .nil)
      have hI : ∀ x ∈ (rngL 0 rest.length).filter (qI rest), ∃ i b zs, x = .int ((i : Nat) : Int) ∧ rest[i]? = some (.tup [.str sREP, b, .tup zs]) := fun x hx => by
        obtain ⟨hm, hq⟩ := List.mem_filter.mp hx
        obtain ⟨i, hi⟩ := List.getElem?_of_mem hm
        obtain ⟨hil, rfl⟩ := rngL_get hi
        have g : rest[i]? = some rest[i] := List.getElem?_eq_getElem hil
        have e : qI rest (.int (0 + (i : Int))) = insB rest[i] := by
          show insB ((rest[(0 + (i : Int)).toNat]?).getD .non) = _
          rw [Int.zero_add, Int.toNat_natCast, g]
          rfl
        rw [e] at hq
        obtain ⟨b, zs, e2⟩ := insB_of hq
        exact ⟨i, b, zs, by rw [Int.zero_add], by rw [g, e2]⟩
      have lI : ((rngL 0 rest.length).filter (qI rest)).length ≤ rest.length := by
        have := List.length_filter_le (qI rest) (rngL 0 rest.length)
        rw [rngL_len] at this
        exact this
      generalize (rngL 0 rest.length).filter (qI rest) = I at *
      by_cases hI0 : I = []
      · subst hI0
        right; right
        refine ⟨[some (.ref 1), some (.tup xs), some (.ref (N.length + 2)), some (.tup rest), o4, some (.tl []), o6, o7, o8], tp t (N ++ [.lst (P.reverse.map pe)]), ?_, t, P, rest, _, k1, hC, rfl, rfl⟩
        unfold b30
        generalize c30 = C at *
        generalize P.reverse.map pe = A at *
        simp -implicitDefEqProofs [cc]
      · have hp : 0 < I.length := List.length_pos_iff.mpr hI0
        have nb : ((I.length : Int) == 0) = false := beq_eq_false_iff_ne.mpr (by omega)
        obtain ⟨t1, v, k2, kv, p1⟩ := pick (N := N ++ [.lst (P.reverse.map pe)]) (d := d + 2) k1 hN' (many := 3) (by decide) (by decide)
        by_cases hv : v = 0
        · subst hv
          right; right
          refine ⟨[some (.ref 1), some (.tup xs), some (.ref (N.length + 2)), some (.tup rest), o4, some (.tl I), o6, o7, o8], tp t1 (N ++ [.lst (P.reverse.map pe)]), ?_, t1, P, rest, _, k2, hC, rfl, rfl⟩
          rw [show ((0 : Nat) : Int) = 0 from rfl] at p1
          unfold b30
          generalize c30 = C at *
          generalize List.map pe P.reverse = A at *
          simp -implicitDefEqProofs [-Int.natCast_pos, cc, nb, p1]
        · left
          have vb : ((v : Int) == 0) = false := beq_eq_false_iff_ne.mpr (by omega)
          obtain ⟨t2, x, k3, hx, p2⟩ := one (xs := I) (N := N ++ [.lst (P.reverse.map pe)]) (d := d + 1) k2 hN' hI0 (by omega) (fun x hx => by obtain ⟨i, _, _, rfl, _⟩ := hI x hx; rfl)
          obtain ⟨i, b, zs, rfl, hi⟩ := hI x hx
          have hC2 : Ch n k ((rest, i) :: P) zs := .step hC hi
          have z := szs_mem (List.mem_of_getElem? hi)
          have sy : D.sz (.tup [.str sREP, b, .tup zs]) = 1 + (1 + (D.sz b + (1 + D.szs zs + 0))) := rfl
          have cl := hC.len
          refine ⟨[some (.ref 1), some (.tup xs), some (.ref (N.length + 2)), some (.tup zs), o4, some (.tl I), o6, o7, o8], tp t2 (N ++ [.lst (((rest, i) :: P).reverse.map pe)]), D.szs zs, ?_, by omega, t2, (rest, i) :: P, zs, _, k3, hC2, rfl, rfl, rfl⟩
          have eA : ((rest, i) :: P).reverse.map pe = P.reverse.map pe ++ [.tup [.tup rest, .int (i : Nat)]] := by simp [pe]
          have lA : (P.reverse.map pe).length < 16777216 := by simp; omega
          rw [eA]
          unfold b30
          generalize c30 = C at *
          generalize P.reverse.map pe = A at *
          have s1 := tp_at1 (t := t2) (N := N) (a := A)
          have s2 := tp_at1 (t := t2) (N := N) (a := A ++ [.tup [.tup rest, .int (i : Nat)]])
          have s0 := tp_at1 (t := t1) (N := N) (a := A)
          simp -implicitDefEqProofs [-Int.natCast_pos, cc, nb, p1, vb, p2, s0, s1, s2, tp_set1, lim, lA, atI_last, atI_0, atI_1, atI_2, atI_at, hi])
    (D.szs xs) [some (.ref 1), some (.tup xs), some (.ref (N.length + 2)), some (.tup xs), o4, o5, o6, o7, o8] (tp t (N ++ [.lst []])) ⟨t, [], xs, o5, h, .base hx, rfl, rfl, rfl⟩
  rcases key with ⟨ρ', M', e, t', P, rest, o5', k1, k2, rfl, rfl⟩ | ⟨_, _, _, h⟩
  · exact ⟨t', P, rest, o5', k1, k2, e⟩
  · exact h.elim
/-- one level up -/
theorem up_ok {n k : Nat} {r rest' : List D} {i : Nat} {b : D} {r0 : List D} (hr : Ws n k r) (hi : r[i]? = some (.tup [.str sREP, b, .tup r0])) (hg : gds rest' = true) (hc : nices rest' = true) (hz : D.szs rest' ≤ D.szs r0 + 8) (hp : dps rest' ≤ dps r0 + 3) :
    gds (r.take i ++ [.tup [.str sREP, b, .tup rest']] ++ r.drop (i + 1)) = true ∧ nices (r.take i ++ [.tup [.str sREP, b, .tup rest']] ++ r.drop (i + 1)) = true ∧ D.szs (r.take i ++ [.tup [.str sREP, b, .tup rest']] ++ r.drop (i + 1)) ≤ D.szs r + 8 ∧ dps (r.take i ++ [.tup [.str sREP, b, .tup rest']] ++ r.drop (i + 1)) ≤ dps r + 3 := by
  have hil := (List.getElem?_eq_some_iff.mp hi).1
  have hie : r[i] = .tup [.str sREP, b, .tup r0] := (List.getElem?_eq_some_iff.mp hi).2
  have e : r = r.take i ++ ([.tup [.str sREP, b, .tup r0]] ++ r.drop (i + 1)) := by
    rw [← hie]
    show r = r.take i ++ (r[i] :: r.drop (i + 1))
    rw [← List.drop_eq_getElem_cons hil, List.take_append_drop]
  have sz : D.szs r = D.szs (r.take i) + (D.szs [.tup [.str sREP, b, .tup r0]] + D.szs (r.drop (i + 1))) := by
    conv => lhs; rw [e]
    rw [szs_app, szs_app]
  have dz : dps r = max (dps (r.take i)) (max (dps [.tup [.str sREP, b, .tup r0]]) (dps (r.drop (i + 1)))) := by
    conv => lhs; rw [e]
    rw [dps_app, dps_app]
  have s1 : ∀ zs : List D, D.szs [.tup [.str sREP, b, .tup zs]] = 1 + (1 + (D.sz b + (1 + D.szs zs + 0))) + 0 := fun _ => rfl
  have d1 : ∀ zs : List D, dps [.tup [.str sREP, b, .tup zs]] = 1 + max (dpx b) (1 + dps zs) := fun _ => by simp [dpx, dps]
  have wi := hr.mem (List.mem_of_getElem? hi)
  have gb : gd b = true := gds_mem (xs := [.str sREP, b, .tup r0]) wi.g (by simp)
  refine ⟨gds_app (gds_app (gds_of fun y hy => gds_mem hr.g (List.mem_of_mem_take hy)) (gds_of fun x hx => ?_)) (gds_of fun y hy => gds_mem hr.g (List.mem_of_mem_drop hy)), nices_app (nices_app (nices_of fun y hy => nices_mem hr.c (List.mem_of_mem_take hy)) (nices_of fun x hx => ?_)) (nices_of fun y hy => nices_mem hr.c (List.mem_of_mem_drop hy)), ?_, ?_⟩
  · rw [List.mem_singleton.mp hx]
    exact gds_of fun y hy => by
      simp only [List.mem_cons, List.mem_nil_iff, or_false] at hy
      rcases hy with rfl | rfl | rfl
      · rfl
      · exact gb
      · exact hg
  · rw [List.mem_singleton.mp hx]
    exact nice3 rfl hc
  · rw [szs_app, szs_app]
    have a := s1 r0
    have b := s1 rest'
    omega
  · rw [dps_app, dps_app]
    have a := d1 r0
    have b := d1 rest'
    omega
theorem back30 {n k : Nat} (hn : n ≤ 1000) {c : Cf} {M : MH} {a0 a1 a2 a4 a5 a8 : Option D} {all : List D} : ∀ (P : List Lv) {r0 rest : List D} {o6 o7 : Option D}, Ch n k P r0 → gds rest = true → nices rest = true → D.szs rest ≤ D.szs r0 + 8 → dps rest ≤ dps r0 + 3 →
    ∃ ys o6' o7', Ws (n + 8) (k + 3) ys ∧ forL R c (.tup [6, 7]) all none p30 (P.map pe) [a0, a1, a2, some (.tup rest), a4, a5, o6, o7, a8] M = .nx [a0, a1, a2, some (.tup ys), a4, a5, o6', o7', a8] M
  | [], r0, rest, o6, o7, hC, hg, hc, hz, hp => by
    have w := hC.ws
    have wz := w.z
    have wp := w.p
    exact ⟨rest, o6, o7, ⟨hg, hc, by omega, by omega⟩, for_end⟩
  | (r, i) :: P, r0, rest, o6, o7, hC, hg, hc, hz, hp => by
    cases hC with
    | step h hi =>
    rename_i b
    have hlim : lim = 16777216 := rfl
    have w := h.ws
    have wz := w.z
    have lr := len_szs r
    have hil := (List.getElem?_eq_some_iff.mp hi).1
    obtain ⟨g1, g2, g3, g4⟩ := up_ok w hi hg hc hz hp
    obtain ⟨ys, o6', o7', k1, k2⟩ := back30 hn (c := c) (M := M) (a0 := a0) (a1 := a1) (a2 := a2) (a4 := a4) (a5 := a5) (a8 := a8) (all := all) P (o6 := some (.tup r)) (o7 := some (.int (i : Nat))) h g1 g2 g3 g4
    refine ⟨ys, o6', o7', k1, ?_⟩
    rw [List.map_cons, for_step (ρ1 := [a0, a1, a2, some (.tup rest), a4, a5, some (.tup r), some (.int (i : Nat)), a8]) rfl]
    have c1 := cutL_to (xs := r) (k := i) (by omega)
    have c2 := cutL_from (xs := r) (k := i + 1) (by omega)
    rw [show ((i + 1 : Nat) : Int) = (i : Int) + 1 by omega] at c2
    have c3 : cutL [D.str sREP, b, .tup r0] none (some 2) = [.str sREP, b] := cutL_to (xs := [D.str sREP, b, .tup r0]) (k := 2) (by simp)
    have z0 := add_tup (m := false) (M := M) (xs := [D.str sREP, b]) (ys := [.tup rest]) (by show 3 ≤ 16777216; omega)
    have z1 := add_tup (m := false) (M := M) (xs := r.take i) (ys := [.tup ([D.str sREP, b] ++ [.tup rest])]) (by rw [List.length_take, hlim]; simp; omega)
    have z2 := add_tup (m := false) (M := M) (xs := r.take i ++ [.tup ([D.str sREP, b] ++ [.tup rest])]) (ys := r.drop (i + 1)) (by rw [List.length_append, List.length_take, List.length_drop, hlim]; simp; omega)
    have st : R.ss c p30 [a0, a1, a2, some (.tup rest), a4, a5, some (.tup r), some (.int (i : Nat)), a8] M = .nx [a0, a1, a2, some (.tup (r.take i ++ [.tup ([D.str sREP, b] ++ [.tup rest])] ++ r.drop (i + 1))), a4, a5, some (.tup r), some (.int (i : Nat)), a8] M := by
      unfold p30
      generalize [D.str sREP, b] ++ [.tup rest] = V at *
      simp -implicitDefEqProofs [atI_at, hi, c1, c2, c3, z0, z1, z2, lim]
    rw [st]
    exact k2
theorem it_rev {m : Bool} {c : Cf} {a : E} {ρ : LX.Env} {M : MH} : itE R c (.rev m a) ρ M = (R.e c (.rev m a) ρ M).bind fun d M => ofO (itemsD M d) M := rfl
theorem rev_ref {m : Bool} {M : MH} {n : Nat} {xs : List D} (h : lstAt M n = some xs) : revD m M (.ref n) = newL m xs.reverse M := by
  show (ofO (lstAt M n) M).bind (fun xs M => newL m xs.reverse M) = _
  rw [h]
  rfl
theorem bent_ok {t : List Int × Int} {xs : List D} {n k : Nat} (h : ok t) (hN : Nr N) (hx : Ws n k xs) (hn : n ≤ 900) : ∃ t' ys, ok t' ∧ Ws (n + 8) (k + 3) ys ∧ R.f (d + 4) 30 [.ref 1, .tup xs] (tp t N) = .ok (.tup ys) (tp t' N) := by
  have hlim : lim = 16777216 := rfl
  obtain ⟨t1, P, rest, o5, k1, hC, p1⟩ := J30 (d := d) (o4 := none) (o5 := none) (o6 := none) (o7 := none) (o8 := none) h hN hx (by omega)
  have w := hC.ws
  have wz := w.z
  have lr := len_szs rest
  have hN' : Nr (N ++ [.lst (P.reverse.map pe)]) := hN.app (.cons hC.und .nil)
  obtain ⟨t2, at', k2, ka, p2⟩ := pick (N := N ++ [.lst (P.reverse.map pe)]) (d := d + 2) k1 hN' (many := (rest.length : Int) + 1) (by omega) (by omega)
  obtain ⟨t3, x, k3, wx, p3⟩ := odd_ok (N := N ++ [.lst (P.reverse.map pe)]) (d := d) k2 hN'
  obtain ⟨t4, v, k4, kv, p4⟩ := pick (N := N ++ [.lst (P.reverse.map pe)]) (d := d + 2) k3 hN' (many := 2) (by decide) (by decide)
  have c1 := cutL_to (xs := rest) (k := at') (by omega)
  have c2 := cutL_from' (xs := rest) (k := at' + v)
  rw [show ((at' + v : Nat) : Int) = (at' : Int) + (v : Int) by omega] at c2
  have sT : D.szs (rest.take at') + D.szs (rest.drop at') = D.szs rest := by rw [← szs_app, List.take_append_drop]
  have sD : D.szs (rest.drop (at' + v)) ≤ D.szs (rest.drop at') := by
    have e : rest.drop at' = (rest.drop at').take v ++ rest.drop (at' + v) := by rw [← List.drop_drop, List.take_append_drop]
    rw [e, szs_app]
    omega
  have z1 := add_tup (m := false) (M := tp t3 (N ++ [.lst (P.reverse.map pe)])) (xs := rest.take at') (ys := [x]) (by rw [List.length_take, hlim]; simp; omega)
  have z2 := add_tup (m := false) (M := tp t4 (N ++ [.lst (P.reverse.map pe)])) (xs := rest.take at' ++ [x]) (ys := rest.drop (at' + v)) (by rw [List.length_append, List.length_take, List.length_drop, hlim]; simp; omega)
  have w1 : Ws n k (rest.take at') := w.sub (fun y => List.mem_of_mem_take) (by omega)
  have w3 : Ws n k (rest.drop (at' + v)) := w.sub (fun y => List.mem_of_mem_drop) (by omega)
  have hx1 : D.szs [x] = D.sz x := by show D.sz x + 0 = _; omega
  have dx1 : dps [x] = dpx x := by simp [dps]
  have wxz := wx.z
  have wxp := wx.p
  have dp1 : dps (rest.take at') ≤ dps rest := dps_of fun y hy => dps_mem (List.mem_of_mem_take hy)
  have dp3 : dps (rest.drop (at' + v)) ≤ dps rest := dps_of fun y hy => dps_mem (List.mem_of_mem_drop hy)
  have gx : gds [x] = true := gds_of fun y hy => by rw [List.mem_singleton.mp hy]; exact wx.g
  have nx : nices [x] = true := nices_of fun y hy => by rw [List.mem_singleton.mp hy]; exact wx.c
  obtain ⟨ys, o6', o7', wy, p5⟩ := back30 (n := n) (k := k) (by omega) (c := ⟨d + 3, none⟩) (M := tp t4 (N ++ [.lst (P.reverse.map pe)])) (a0 := some (.ref 1)) (a1 := some (.tup xs)) (a2 := some (.ref (N.length + 2))) (a4 := some (.int (at' : Nat))) (a5 := o5) (a8 := none) (all := P.map pe) P (o6 := none) (o7 := none) (rest := rest.take at' ++ [x] ++ rest.drop (at' + v)) hC (gds_app (gds_app w1.g gx) w3.g) (nices_app (nices_app w1.c nx) w3.c) (by rw [szs_app, szs_app]; omega) (by rw [dps_app, dps_app]; omega)
  refine ⟨t4, ys, k4, wy, ?_⟩
  rw [call_eq (t := f_30) rfl rfl]
  have eb : f_30.body = [.set 2 (.lst true []), .set 3 (.var 1), .wh (.truth (.con (.bl true))) b30, .set 4 (.call 18 [.var 0, .bin false .Add (.fn false .len [.var 3]) (.con (.int 1))]), .set 3 (.bin false .Add (.bin false .Add (.cut false (.var 3) none (some (.var 4))) (.tup [.call 29 [.var 0]])) (.cut false (.var 3) (some (.bin false .Add (.var 4) (.call 18 [.var 0, .con (.int 2)]))) none)), .for (.tup [6, 7]) (.rev false (.var 2)) p30, .ret (.var 3)] := rfl
  show endF true (tp t N).length (R.ss ⟨d + 3, none⟩ f_30.body [some (.ref 1), some (.tup xs), none, none, none, none, none, none, none] (tp t N)) = _
  have l1 : (tp t N).length = N.length + 2 := by simp [tp]
  have l2 : tp t N ++ [.lst []] = tp t (N ++ [.lst []]) := rfl
  have fin : endF true (tp t N).length (.rt (.tup ys) (tp t4 (N ++ [.lst (P.reverse.map pe)]))) = .ok (.tup ys) (tp t4 N) := tp_end (t := t) (t' := t4) hN (gds_und wy.g)
  have rr := rev_ref (m := false) (tp_at1 (t := t4) (N := N) (a := P.reverse.map pe))
  have e9 : (P.reverse.map pe).reverse = P.map pe := by rw [List.map_reverse, List.reverse_reverse]
  rw [e9] at rr
  rw [eb, ← fin]
  generalize P.reverse.map pe = A at *
  generalize P.map pe = A' at *
  generalize b30 = B at *
  generalize p30 = Q at *
  simp -implicitDefEqProofs [l1, l2]
  rw [p1]
  simp -implicitDefEqProofs [p2, p3, p4, c1, c2, z1, z2, lim, it_rev, rr]
  simp -implicitDefEqProofs at p5
  rw [p5]
  simp -implicitDefEqProofs [l1]
end
end LK

set_option Elab.async false
set_option linter.all false
set_option maxRecDepth 1000000
set_option maxHeartbeats 4000000
namespace LK
open LX
/-! ### _law_mixed of a list that is written -/
theorem tp_lst {t : List Int × Int} {N X : MH} {r : Nat} {xs : List D} (h : N[r]? = some (.lst xs)) : lstAt (tp t (N ++ X)) (r + 2) = some xs := by
  have hr := (List.getElem?_eq_some_iff.mp h).1
  unfold lstAt tp
  rw [List.getElem?_cons_succ, List.getElem?_cons_succ, List.getElem?_append_left hr, h]
theorem mixed_ref {t : List Int × Int} {N : MH} {d r : Nat} {xs : List D} (P : D → Prop) (h : ok t) (hN : Nr N) (hu : ∀ x, P x → D.und 0 x = true) (hx : ∀ x ∈ xs, P x) (hz : xs.length ≤ 1000) (hr : N[r]? = some (.lst xs)) : ∃ t' l, ok t' ∧ l.length = xs.length ∧ (∀ x ∈ l, P x) ∧ R.f (d + 2) 20 [.ref 1, .ref (r + 2)] (tp t N) = .ok (.tl l) (tp t' N) := by
  have hlim : lim = 16777216 := rfl
  have us : ∀ l : List D, (∀ x ∈ l, P x) → D.undAll 0 l = true := fun l hl => unds_of fun x hx => hu x (hl x hx)
  obtain ⟨ρ2, M2, e1, t', rest, told, o, c1, c2, c3, c4, c5, rfl, rfl⟩ := for_nx (P := pg) (c := ⟨d + 1, none⟩) (g := .one 4) (all := rngL 0 xs.length) (b := [.expr (.meth .append (.var 3) [.meth .pop1 (.var 2) [.call 18 [.var 0, .fn false .len [.var 2]]]])])
    (fun i ρ M' => ∃ t rest told o, ok t ∧ rest.length + i = xs.length ∧ told.length = i ∧ (∀ x ∈ rest, P x) ∧ (∀ x ∈ told, P x) ∧ M' = tp t (N ++ [.lst rest, .lst told]) ∧ ρ = [some (.ref 1), some (.ref (r + 2)), some (.ref (N.length + 2)), some (.ref (N.length + 3)), o]) (l := rngL 0 xs.length) (s := 0) (ρ := [some (.ref 1), some (.ref (r + 2)), some (.ref (N.length + 2)), some (.ref (N.length + 3)), none]) (M := tp t (N ++ [.lst xs, .lst []])) (by
    rintro i x ρ M' hi ⟨t, rest, told, o, c1, c2, c3, c4, c5, rfl, rfl⟩
    obtain ⟨hi, rfl⟩ := rngL_get hi
    have hr : 0 < rest.length := by omega
    obtain ⟨t1, v, h1, h2, h3⟩ := pick (N := N ++ [.lst rest, .lst told]) (d := d) c1 (hN.app (.cons (us _ c4) (.cons (us _ c5) .nil))) (many := (rest.length : Int)) (by omega) (by omega)
    have hv : v < rest.length := by omega
    have gv : rest[v]? = some rest[v] := List.getElem?_eq_getElem hv
    have pp := pop1_ref (M := tp t1 (N ++ [.lst rest, .lst told])) (i := v) tp_at.1 gv (by rw [hlim]; omega)
    rw [tp_set] at pp
    have hl : told.length < 16777216 := by omega
    refine ⟨_, [some (.ref 1), some (.ref (r + 2)), some (.ref (N.length + 2)), some (.ref (N.length + 3)), some (.int (i : Nat))], tp t1 (N ++ [.lst (rest.eraseIdx v), .lst (told ++ [rest[v]])]), rfl, .inl ?_, t1, rest.eraseIdx v, told ++ [rest[v]], _, h1, ?_, ?_, ?_, ?_, rfl, rfl⟩
    · simp -implicitDefEqProofs [tp_at, h3, pp, tp_set3, lim, hl]
    · rw [List.length_eraseIdx_of_lt hv]; omega
    · simp; omega
    · exact fun x hx => c4 x (List.mem_of_mem_eraseIdx hx)
    · intro x hx
      rcases List.mem_append.mp hx with hx | hx
      · exact c5 x hx
      · rw [List.mem_singleton.mp hx]
        exact c4 _ (List.getElem_mem hv)) ⟨t, xs, [], none, h, by simp, rfl, hx, fun x hx => (by cases hx), rfl, rfl⟩
  rw [rngL_len] at c2 c3
  have hr0 : rest = [] := List.length_eq_zero_iff.mp (by omega)
  subst hr0
  refine ⟨t', told, c1, by omega, c5, ?_⟩
  rw [call_eq (t := f_20) rfl rfl]
  have rg := rng1_nat (n := xs.length) (by rw [hlim]; omega)
  have l1 : (tp t N).length = N.length + 2 := by simp [tp]
  have l2 : tp t N ++ [.lst xs, .lst []] = tp t (N ++ [.lst xs, .lst []]) := rfl
  have e : endF true (tp t' N).length (.rt (.ref (N.length + 3)) (tp t' (N ++ [.lst [], .lst told]))) = .ok (.tl told) (tp t' N) := endF_tlC (by simp [tp]) tp_at.2 (us _ c5) (by simp [tp]) (tp_cl hN)
  have l3 : (tp t' N).length = N.length + 2 := by simp [tp]
  have g0 : lstAt (tp t N) (r + 2) = some xs := by
    have := tp_lst (t := t) (X := []) hr
    rwa [List.append_nil] at this
  have g1 : lstAt (tp t (N ++ [.lst xs, .lst []])) (r + 2) = some xs := tp_lst hr
  rw [l3] at e
  simp -implicitDefEqProofs [f_20, startE, rg, l1, l2, g0, g1]
  rw [e1]
  simp
  exact e
/-! ### _law_tape -/
def BB : Int := 1 * 2 ^ (1800 : Int).toNat
theorem bb_pos : 0 < BB := by
  show 0 < 1 * (2 : Int) ^ _
  rw [Int.one_mul]
  exact Int.pow_pos (by decide)
theorem shl {m : Bool} {M : MH} : binD m M .LShift (.int 1) (.int 1800) = .ok (.int BB) M := by
  have e : binD m M .LShift (.int 1) (.int 1800) = if decide ((0 : Int) ≤ 1800) && decide ((1800 : Int) ≤ 1000000) && decide ((1 : Int).natAbs < 2 ^ 64) then .ok (.int (1 * 2 ^ (1800 : Int).toNat)) M else .stuck := rfl
  rw [e, if_pos (by decide)]
  rfl
theorem pw {m : Bool} {M : MH} : binD m M .Pow (.int 10) (.int 18) = .ok (.int 1000000000000000000) M := by
  have e : binD m M .Pow (.int 10) (.int 18) = if decide ((0 : Int) ≤ 18) && decide ((18 : Int) ≤ 1000000) && decide ((10 : Int).natAbs < 2 ^ 64) then .ok (.int (10 ^ (18 : Int).toNat)) M else .stuck := rfl
  rw [e, if_pos (by decide)]
  rfl
def b17 : List S := [.set 4 (.bin false .Mod (.fn false .abs [.fn false .int [.ix (.var 0) (.var 3)]]) (.bin false .LShift (.con (.int 1)) (.con (.int 1800)))), .set 1 (.bin false .Mod (.fn false .int [.bin false .Add (.bin false .Add (.bin false .Add (.bin false .Mult (.var 1) (.con (.int 48271))) (.bin false .Mod (.var 4) (.con (.int 998071)))) (.bin false .Mult (.con (.int 41)) (.var 3))) (.con (.int 5))]) (.con (.int 2147483647))), .ite (.cmp .GtE (.var 4) (.bin false .Pow (.con (.int 10)) (.con (.int 18)))) [.expr (.meth .append (.var 2) [.var 4])] []]
theorem tape_ok {ns : List Int} {d : Nat} (hl : ns.length ≤ 63) : ∃ t, ok t ∧ R.f (d + 1) 17 [.fl (ns.map .int)] [] = .ok (.ref 1) (tp t []) := by
  have hlim : lim = 16777216 := rfl
  obtain ⟨n, hn, hn2, e0⟩ : ∃ n : Nat, n ≤ ns.length ∧ n ≤ 60 ∧ (if (60 : Int) < (ns.length : Int) then (60 : Int) else (ns.length : Int)) = n := by
    by_cases h : ns.length ≤ 60
    · exact ⟨ns.length, Nat.le_refl _, h, by rw [if_neg (by omega)]⟩
    · exact ⟨60, by omega, Nat.le_refl _, by rw [if_pos (by omega)]; rfl⟩
  obtain ⟨ρ2, M2, e1, s, gs, o3, o4, c1, c2, c3, rfl, rfl⟩ := for_nx (P := pg) (c := ⟨d, none⟩) (g := .one 3) (all := rngL 0 n) (b := b17)
    (fun i ρ M' => ∃ s gs o3 o4, 0 ≤ s ∧ (∀ c ∈ gs, (0 : Int) ≤ c) ∧ gs.length ≤ i ∧ M' = [MO.lst (gs.map .int)] ∧ ρ = [some (.fl (ns.map .int)), some (.int s), some (.ref 0), o3, o4]) (l := rngL 0 n) (s := 0) (ρ := [some (.fl (ns.map .int)), some (.int 23011), some (.ref 0), none, none]) (M := [.lst []]) (by
    rintro i x ρ M' hi ⟨s, gs, o3, o4, c1, c2, c3, rfl, rfl⟩
    obtain ⟨hi, rfl⟩ := rngL_get hi
    rw [Nat.zero_add] at c3 ⊢
    have gi : (ns.map D.int)[i]? = some (.int ns[i]) := by rw [List.getElem?_map, List.getElem?_eq_getElem (by omega)]; rfl
    have b0 : BB ≠ 0 := by have := bb_pos; omega
    generalize hv : (if ns[i] < 0 then -ns[i] else ns[i]) = v
    have hz : gs.length < 16777216 := by omega
    have nn := Int.fmod_nonneg_of_pos v bb_pos
    generalize hcell : v.fmod BB = cell at nn
    have sm : ∀ M m, binD m M .Mult (.int s) (.int 48271) = .ok (.int (s * 48271)) M := fun M m => mul_r (by decide)
    have sm2 : ∀ M m, binD m M .Mult (.int 41) (.int i) = .ok (.int (41 * i)) M := fun M m => mul_l (by decide)
    by_cases hc : 1000000000000000000 ≤ cell
    · refine ⟨_, [some (.fl (ns.map .int)), some (.int ((s * 48271 + cell.fmod 998071 + 41 * i + 5).fmod 2147483647)), some (.ref 0), some (.int (i : Nat)), some (.int cell)], [.lst ((gs ++ [cell]).map .int)], rfl, .inl ?_, _, gs ++ [cell], _, _, Int.fmod_nonneg_of_pos _ (by decide), ?_, by simp; omega, rfl, rfl⟩
      · simp -implicitDefEqProofs [b17, atI_at, gi, hv, shl, mod_int, b0, hcell, sm, sm2, pw, hc, lstAt, lim, hz]
      · intro x hx
        rcases List.mem_append.mp hx with hx | hx
        · exact c2 x hx
        · rw [List.mem_singleton.mp hx]
          exact nn
    · refine ⟨_, [some (.fl (ns.map .int)), some (.int ((s * 48271 + cell.fmod 998071 + 41 * i + 5).fmod 2147483647)), some (.ref 0), some (.int (i : Nat)), some (.int cell)], [.lst (gs.map .int)], rfl, .inl ?_, _, gs, _, _, Int.fmod_nonneg_of_pos _ (by decide), c2, by omega, rfl, rfl⟩
      simp -implicitDefEqProofs [b17, atI_at, gi, hv, shl, mod_int, b0, hcell, sm, sm2, pw, hc, lstAt, lim, hz]) ⟨23011, [], none, none, by decide, fun c hc => (by cases hc), Nat.le_refl _, rfl, rfl⟩
  refine ⟨(gs, s), ⟨c2, c1⟩, ?_⟩
  rw [call_eq (t := f_17) rfl rfl]
  have eb : f_17.body = [.set 1 (.con (.int 23011)), .set 2 (.lst true []), .for (.one 3) (.rng1 (.fn false .min2 [.fn false .len [.var 0], .con (.int 60)])) b17, .ret (.lst true [.var 1, .var 2])] := rfl
  show endF false 0 (R.ss ⟨d, none⟩ f_17.body (startE 5 [.fl (ns.map .int)]) []) = _
  rw [eb]
  have rg := rng1_nat (n := n) (by omega)
  simp -implicitDefEqProofs [startE, e0, rg, lim]
  rw [e1]
  simp
  rfl
/-! ### _law_nested -/
def nst : Nat → D
  | 0 => .tup [dTHROW]
  | n + 1 => .tup [tr (.int 0) (.str [70]), rq (.int 2) (nst n)]
theorem nst_gd : ∀ n, gd (nst n) = true
  | 0 => rfl
  | n + 1 => gds_of fun x hx => by
    simp only [List.mem_cons, List.mem_nil_iff, or_false] at hx
    rcases hx with rfl | rfl
    · rfl
    · exact gds_of fun y hy => by
        simp only [List.mem_cons, List.mem_nil_iff, or_false] at hy
        rcases hy with rfl | rfl | rfl
        · rfl
        · rfl
        · exact nst_gd n
theorem nst_sz : ∀ n, D.sz (nst n) = 3 + 8 * n
  | 0 => rfl
  | n + 1 => by
    have e : D.sz (nst (n + 1)) = 1 + (4 + (1 + (1 + (1 + (D.sz (nst n) + 0))) + 0)) := rfl
    rw [e, nst_sz n]
    omega
theorem nst_dpx : ∀ n, dpx (nst n) = 2 + 2 * n
  | 0 => by simp [nst, dpx, dps]
  | n + 1 => by
    have e : dpx (nst (n + 1)) = 1 + max 1 (1 + dpx (nst n)) := by
      conv => lhs; unfold nst
      simp [dpx, dps]
    rw [e, nst_dpx n]
    omega
theorem nested_ok {M : MH} {d n : Nat} (hM : Cl M) (hn : n ≤ 1000) : R.f (d + 1) 32 [.int (n : Nat)] M = .ok (nst n) M := by
  have hlim : lim = 16777216 := rfl
  obtain ⟨ρ2, M2, e1, o2, rfl, rfl⟩ := for_nx (P := pg) (c := ⟨d, none⟩) (g := .one 2) (all := rngL 0 n) (b := [.set 1 (.tup [.tup [.con (.str sTURN), .con (.int 0), .con (.str [70])], .tup [.con (.str sREP), .con (.int 2), .var 1]])])
    (fun i ρ M' => ∃ o2, M' = M ∧ ρ = [some (.int (n : Nat)), some (nst i), o2]) (l := rngL 0 n) (s := 0) (ρ := [some (.int (n : Nat)), some (nst 0), none]) (M := M) (by
    rintro i x ρ M' hi ⟨o2, rfl, rfl⟩
    obtain ⟨hi, rfl⟩ := rngL_get hi
    rw [Nat.zero_add]
    refine ⟨_, [some (.int (n : Nat)), some (nst (i + 1)), some (.int (i : Nat))], M', rfl, .inl ?_, _, rfl, rfl⟩
    have e : nst (i + 1) = .tup [tr (.int 0) (.str [70]), rq (.int 2) (nst i)] := rfl
    rw [e]
    generalize nst i = V
    simp -implicitDefEqProofs [lim]) ⟨none, rfl, rfl⟩
  rw [rngL_len, Nat.zero_add] at e1
  have rg := rng1_nat (n := n) (by omega)
  rw [call_eq (t := f_32) rfl rfl, ← endF_vC (M := M2) (M' := M2) (gd_und (nst_gd n)) (by simp) hM]
  have z : nst 0 = .tup [dTHROW] := rfl
  rw [z] at e1
  generalize nst n = V at *
  simp -implicitDefEqProofs [f_32, startE, lim, rg]
  rw [e1]
  simp
end LK

set_option Elab.async false
set_option linter.all false
set_option maxRecDepth 1000000
set_option maxHeartbeats 4000000
namespace LK
open LX
/-! ### by hand -/
theorem tld_pl (r : Ex) : D.pl (tld r) = true := by
  cases r with
  | ok mb => rfl
  | error qw =>
    obtain ⟨q, w⟩ := qw
    have pp : D.pl (pth q) = true := pls_of fun x hx => by
      obtain ⟨i, _, rfl⟩ := List.mem_map.mp hx
      rfl
    show (true && (D.pl (pth q) && (true && true))) = true
    rw [pp]
    rfl
theorem tld_sz {x : D} : D.sz (tld (chk x)) ≤ 5 + D.sz x := by
  cases e : chk x with
  | ok mb =>
    show 3 ≤ _
    omega
  | error qw =>
    obtain ⟨q, w⟩ := qw
    have hl := chk_len e
    have sp : D.sz (pth q) = 1 + q.length := by show 1 + D.szs _ = _; rw [pth_sz]
    show 1 + (1 + (D.sz (pth q) + (1 + 0))) ≤ _
    omega
structure Row (x : D) : Prop where
  h : ∃ a, x = .tup [a, tld (chk a)] ∧ gd a = true ∧ D.sz a ≤ 100 ∧ dpx a ≤ 10
def TWO : D := rq (.int 2) (.tup [dTHROW, rq (.int 3) (.tup [dTHROW, tr (.int 24) (.str [88])])])
def tbad (p : List D) (w : List Nat) : D := .tup [.str sBAD, .tup p, .str w]
def R1 : List D := [.tup [.tup [], .tup [.str sTOLD, .int 0]], .tup [.tup [dTHROW, rq (.int 2) (.tup [dTHROW, dTHROW])], .tup [.str sTOLD, .int 4]], .tup [.tl [dTHROW], tbad [] wSHAPE], .tup [.tup [dTHROW, TWO], tbad [.int 1, .int 1, .int 1] sPACK]]
def R2 : List D := [.tup [.tup [rq (.int 1) (.tup [.non]), .non], tbad [.int 0] wMANY], .tup [.tup [dTHROW, rq (.int 2) (.tup [dTHROW, .non]), .non], tbad [.int 1, .int 1] wWORD]]
def R3 : List D := [.tup [.tup [th (.int 24) (.str [97])], tbad [.int 0] wTAB]]
def R4 : List D := [.tup [.tup [th (.int 0) (.str [97])], tbad [.int 0] wCOL], .tup [.tup [pk (.int 0) (.tup [.int 1, .int 0])], tbad [.int 0] wTABS]]
def R5 : List D := [.tup [.tup [tr (.int 0) (.str [88])], tbad [.int 0] sTURN], .tup [.tup [rq (.int 2) (.tup [])], tbad [.int 0] wEMPTY]]
def r12 : D := .tup [.tup [rq (.int 2) (.tl [dTHROW])], tbad [.int 0] wSHAPE]
def S2 : List D := R1 ++ R2
def S3 : List D := S2 ++ R3
def S4 : List D := S3 ++ R4
def S5 : List D := S4 ++ R5
def S6 : List D := S5 ++ [r12]
theorem row_ok : ∀ x ∈ S6, Row x := by
  have dp : ∀ a : D, decide (dpx a ≤ 10) = true → dpx a ≤ 10 := fun a h => of_decide_eq_true h
  intro x hx
  simp only [S6, S5, S4, S3, S2, R1, R2, R3, R4, R5, List.mem_append, List.mem_cons, List.mem_nil_iff, or_false, or_assoc] at hx
  rcases hx with rfl | rfl | rfl | rfl | rfl | rfl | rfl | rfl | rfl | rfl | rfl | rfl <;> exact ⟨_, rfl, rfl, by decide, dp _ rfl⟩
theorem row_und : ∀ x, Row x → D.und 0 x = true := by
  rintro x ⟨a, rfl, h, _, _⟩
  show (D.und 0 a && (D.und 0 (tld (chk a)) && true)) = true
  rw [gd_und h, tld_und]
  rfl
abbrev NH : MH := [.lst R1, .lst S2, .lst S3, .lst S4, .lst S6]
theorem nh_nr : Nr NH := by
  have h : ∀ xs, (∀ x ∈ xs, x ∈ S6) → MO.und 0 (.lst xs) = true := fun xs hs => unds_of fun x hx => row_und x (row_ok x (hs x hx))
  have h2 : ∀ x ∈ S2, x ∈ S3 := fun x hx => List.mem_append_left _ hx
  have h3 : ∀ x ∈ S3, x ∈ S4 := fun x hx => List.mem_append_left _ hx
  have h4 : ∀ x ∈ S4, x ∈ S6 := fun x hx => List.mem_append_left _ (List.mem_append_left _ hx)
  exact .cons (h R1 fun x hx => h4 x (h3 x (h2 x (List.mem_append_left _ hx)))) (.cons (h S2 fun x hx => h4 x (h3 x (h2 x hx))) (.cons (h S3 fun x hx => h4 x (h3 x hx)) (.cons (h S4 h4) (.cons (h S6 fun x hx => hx) .nil))))
def b33 : List S := [.ite (.not (.truth (.call 21 [.call 28 [.var 4], .var 5]))) [.ret (.con (.bl false))] []]
def ret33 : E := .and (.call 21 [.call 16 [.tup [.tup [.con (.str sREP), .con (.int 2), .tup [.var 1, .tup [.con (.str sREP), .con (.int 2), .tup [.var 1]]]]]], .con (.int 2)]) (.and (.call 21 [.call 16 [.tup [.var 1]], .con (.int 0)]) (.call 21 [.callk 14 1 [0] [.tup [.var 1]], .con (.bl true)]))
theorem loop33 {M : MH} {d : Nat} {l : List D} (hM : Cl M) (hd : 21 < d) (hl : ∀ x ∈ l, Row x) {a0 a1 a2 a3 o4 o5 : Option D} : ∃ o4' o5', forL R ⟨d, none⟩ (.tup [4, 5]) l none b33 l [a0, a1, a2, a3, o4, o5] M = .nx [a0, a1, a2, a3, o4', o5'] M := by
  have hlim : lim = 16777216 := rfl
  obtain ⟨e, rfl⟩ : ∃ e, d = e + 1 := ⟨d - 1, by omega⟩
  obtain ⟨ρ2, M2, e1, o4', o5', rfl, rfl⟩ := for_nx (P := pg) (c := ⟨e + 1, none⟩) (g := .tup [4, 5]) (all := l) (b := b33)
    (fun i ρ M' => ∃ o4 o5, M' = M ∧ ρ = [a0, a1, a2, a3, o4, o5]) (l := l) (s := 0) (ρ := [a0, a1, a2, a3, o4, o5]) (M := M) (by
    rintro i x ρ M' hi ⟨o4, o5, rfl, rfl⟩
    obtain ⟨a, rfl, h1, h2, h3⟩ := (hl x (List.mem_of_getElem? hi)).h
    refine ⟨[a0, a1, a2, a3, some a, some (tld (chk a))], [a0, a1, a2, a3, some a, some (tld (chk a))], M', rfl, .inl ?_, _, _, rfl, rfl⟩
    have q := told_ok (d := e + 1) hM h3 (by omega) (by omega)
    have s := same_true (d := e) (tld_pl (chk a)) (by have := tld_sz (x := a); omega) hM
    generalize tld (chk a) = V at *
    simp -implicitDefEqProofs [b33, q, s]) ⟨o4, o5, rfl, rfl⟩
  exact ⟨o4', o5', e1⟩
theorem hand_ok {t : List Int × Int} {d : Nat} (h : ok t) (hd : 24 < d) : ∃ t', ok t' ∧ R.f d 33 [.ref 1] (tp t []) = .ok (.bl true) (tp t' []) := by
  have hlim : lim = 16777216 := rfl
  obtain ⟨d, rfl⟩ : ∃ e, d = e + 3 := ⟨d - 3, by omega⟩
  obtain ⟨t1, l, k1, ll, lr, p1⟩ := mixed_ref (t := t) (N := NH) (d := d) (r := 4) (xs := S6) Row h nh_nr row_und row_ok (by decide) rfl
  have cl := tp_cl (t := t1) nh_nr
  have hl6 : ∀ x ∈ l.take 6, Row x := fun x hx => lr x (List.mem_of_mem_take hx)
  obtain ⟨o4', o5', p2⟩ := loop33 (d := d + 2) (l := l.take 6) (a0 := some (.ref 1)) (a1 := some dTHROW) (a2 := some TWO) (a3 := some (.ref 6)) (o4 := none) (o5 := none) cl (by omega) hl6
  have c6 : cutL l none (some 6) = l.take 6 := cutL_to (k := 6) (by rw [ll]; decide)
  have dT : dpx (.tup [dTHROW]) ≤ 10 := of_decide_eq_true rfl
  have dX : dpx (.tup [rq (.int 2) (.tup [dTHROW, rq (.int 2) (.tup [dTHROW])])]) ≤ 10 := of_decide_eq_true rfl
  have q1 := (size_ok (d := d + 2) (x := .tup [rq (.int 2) (.tup [dTHROW, rq (.int 2) (.tup [dTHROW])])]) (m := 4) (b := 2) cl dX (by omega) (by decide) rfl).2
  have q2 := (size_ok (d := d + 2) (x := .tup [dTHROW]) (m := 1) (b := 0) cl dT (by omega) (by decide) rfl).2
  have q3 := iscode_ok (d := d + 2) (x := .tup [dTHROW]) cl dT (by omega) (by decide)
  have z3 : isOk (chk (.tup [dTHROW])) = true := rfl
  rw [z3] at q3
  have s1 := same_true (d := d + 1) (x := .int 2) (M := tp t1 NH) rfl (by decide) cl
  have s2 := same_true (d := d + 1) (x := .int 0) (M := tp t1 NH) rfl (by decide) cl
  have s3 := same_true (d := d + 1) (x := .bl true) (M := tp t1 NH) rfl (by decide) cl
  have a1 : binD true (tp t [.lst R1]) .Add (.ref 2) (.tl R2) = .ok (.ref 3) (tp t [.lst R1, .lst S2]) := add_ref (x := R1) (y := R2) rfl (by decide)
  have a2 : binD true (tp t [.lst R1, .lst S2]) .Add (.ref 3) (.tl R3) = .ok (.ref 4) (tp t [.lst R1, .lst S2, .lst S3]) := add_ref (x := S2) (y := R3) rfl (by decide)
  have a3 : binD true (tp t [.lst R1, .lst S2, .lst S3]) .Add (.ref 4) (.tl R4) = .ok (.ref 5) (tp t [.lst R1, .lst S2, .lst S3, .lst S4]) := add_ref (x := S3) (y := R4) rfl (by decide)
  have a4 : binD true (tp t [.lst R1, .lst S2, .lst S3, .lst S4]) .Add (.ref 5) (.tl R5) = .ok (.ref 6) (tp t [.lst R1, .lst S2, .lst S3, .lst S4, .lst S5]) := add_ref (x := S4) (y := R5) rfl (by decide)
  have a5 : methD (tp t [.lst R1, .lst S2, .lst S3, .lst S4, .lst S5]) .append (.ref 6) [r12] = .ok .non (tp t NH) := rfl
  have a6 : recvOk (tp t [.lst R1, .lst S2, .lst S3, .lst S4, .lst S5]) .append (.ref 6) = true := rfl
  have fin : endF true (tp t []).length (.rt (.bl true) (tp t1 NH)) = .ok (.bl true) (tp t1 []) := tp_end (t := t) (t' := t1) (N := []) (X := NH) .nil rfl
  have eb : ∃ e2 e31 e32 e33 e34 e35 e36, f_33.body = [.set 1 (.tup [.con (.str sTHROW)]), .set 2 e2, .set 3 e31, .set 3 (.bin true .Add (.var 3) e32), .set 3 (.bin true .Add (.var 3) e33), .set 3 (.bin true .Add (.var 3) e34), .set 3 (.bin true .Add (.var 3) e35), .expr (.meth .append (.var 3) [e36]), .for (.tup [4, 5]) (.cut false (.call 20 [.var 0, .var 3]) none (some (.con (.int 6)))) b33, .ret ret33]
      ∧ (∀ c a b e f g M, R.e c e2 [a, some dTHROW, b, e, f, g] M = .ok TWO M)
      ∧ (∀ c a e f g M, R.e c e31 [a, some dTHROW, some TWO, e, f, g] M = .ok (.ref M.length) (M ++ [.lst R1]))
      ∧ (∀ c a e f g M, R.e c e32 [a, some dTHROW, some TWO, e, f, g] M = .ok (.tl R2) M)
      ∧ (∀ c a e f g M, R.e c e33 [a, some dTHROW, some TWO, e, f, g] M = .ok (.tl R3) M)
      ∧ (∀ c a e f g M, R.e c e34 [a, some dTHROW, some TWO, e, f, g] M = .ok (.tl R4) M)
      ∧ (∀ c a e f g M, R.e c e35 [a, some dTHROW, some TWO, e, f, g] M = .ok (.tl R5) M)
      ∧ (∀ c a e f g M, R.e c e36 [a, some dTHROW, some TWO, e, f, g] M = .ok r12 M) := by
    refine ⟨_, _, _, _, _, _, _, rfl, ?_, ?_, ?_, ?_, ?_, ?_, ?_⟩
    · intro c a b e f g M; simp -implicitDefEqProofs [lim, TWO]
    · intro c a e f g M; generalize hT : TWO = T; simp -implicitDefEqProofs [lim, R1, hT, tbad]
    · intro c a e f g M; simp -implicitDefEqProofs [lim, R2, tbad]
    · intro c a e f g M; simp -implicitDefEqProofs [lim, R3, tbad]
    · intro c a e f g M; simp -implicitDefEqProofs [lim, R4, tbad]
    · intro c a e f g M; simp -implicitDefEqProofs [lim, R5, tbad]
    · intro c a e f g M; simp -implicitDefEqProofs [lim, r12, tbad]
  obtain ⟨e2, e31, e32, e33, e34, e35, e36, eb, v2, v31, v32, v33, v34, v35, v36⟩ := eb
  refine ⟨t1, k1, ?_⟩
  rw [call_eq (d := d + 2) (t := f_33) rfl rfl]
  show endF true (tp t []).length (R.ss ⟨d + 2, none⟩ f_33.body [some (.ref 1), none, none, none, none, none] (tp t [])) = _
  have l0 : (tp t []).length = 2 := rfl
  have l1 : tp t [] ++ [.lst R1] = tp t [.lst R1] := rfl
  rw [eb, ← fin]
  generalize TWO = T at *
  generalize S6 = s6 at *
  generalize S5 = s5 at *
  generalize S4 = s4 at *
  generalize S3 = s3' at *
  generalize S2 = s2' at *
  generalize R1 = q_1 at *
  generalize R2 = q_2 at *
  generalize R3 = q_3 at *
  generalize R4 = q_4 at *
  generalize R5 = q_5 at *
  generalize r12 = q_6 at *
  generalize b33 = B at *
  simp -implicitDefEqProofs [v2, v31, v32, v33, v34, v35, v36, l0, l1, a1, a2, a3, a4, a5, a6, p1, c6, lim]
  rw [p2]
  simp -implicitDefEqProofs [ret33, lim, q1, q2, q3, s1, s2, s3, permL]
end LK

set_option Elab.async false
set_option linter.all false
set_option maxRecDepth 1000000
set_option maxHeartbeats 4000000
namespace LK
open LX
abbrev sc (ns : List Int) : Option D := some (.fl (ns.map .int))
def lb1 : List S := [.set 3 (.call 27 [.var 1, .con (.int 7)]), .set 4 (.call 30 [.var 1, .var 3]), .ite (.or (.not (.truth (.call 31 [.var 3]))) (.or (.not (.truth (.call 31 [.var 4]))) (.not (.truth (.call 31 [.call 30 [.var 1, .var 4]]))))) [.ret (.con (.bl false))] []]
theorem held_ws {M : MH} {n k d : Nat} {xs : List D} (hM : Cl M) (w : Ws n k xs) (hn : n ≤ 10000) (hd : k + 12 < d) : R.f d 31 [.tup xs] M = .ok (.bl true) M :=
  held_ok (k := k + 1) hM w.g (by rw [dpx]; have := w.p; omega) (by omega) (by show 1 + D.szs xs ≤ _; have := w.z; omega)
theorem law_1 {ns : List Int} {t : List Int × Int} {N : MH} (h : ok t) (hN : Nr N) {o5 o6 o7 : Option D} : ∃ t' o2 xs o4, ok t' ∧ Ws 68 8 xs ∧ forL R ⟨79, none⟩ (.one 2) (rngL 0 3) none lb1 (rngL 0 3) [sc ns, some (.ref 1), none, none, none, o5, o6, o7] (tp t N) = .nx [sc ns, some (.ref 1), o2, some (.tup xs), o4, o5, o6, o7] (tp t' N) := by
  obtain ⟨ρ2, M2, e1, t', o2, o3, o4, c1, c2, rfl, rfl⟩ := for_nx (P := pg) (c := ⟨79, none⟩) (g := .one 2) (all := rngL 0 3) (b := lb1)
    (fun i ρ M' => ∃ t o2 o3 o4, ok t ∧ (i = 0 ∨ ∃ xs, o3 = some (.tup xs) ∧ Ws 68 8 xs) ∧ M' = tp t N ∧ ρ = [sc ns, some (.ref 1), o2, o3, o4, o5, o6, o7]) (l := rngL 0 3) (s := 0) (ρ := [sc ns, some (.ref 1), none, none, none, o5, o6, o7]) (M := tp t N) (by
    rintro i x ρ M' hi ⟨t, o2, o3, o4, c1, c2, rfl, rfl⟩
    obtain ⟨hi, rfl⟩ := rngL_get hi
    obtain ⟨t1, xs, k1, w1, p1⟩ := code_ok (N := N) (d := 74) c1 hN
    obtain ⟨t2, ys, k2, w2, p2⟩ := bent_ok (N := N) (d := 75) k1 hN w1 (by omega)
    obtain ⟨t3, zs, k3, w3, p3⟩ := bent_ok (N := N) (d := 75) k2 hN w2 (by omega)
    have h1 := held_ws (d := 79) (tp_cl (t := t2) hN) w1 (by omega) (by omega)
    have h2 := held_ws (d := 79) (tp_cl (t := t2) hN) w2 (by omega) (by omega)
    have h3 := held_ws (d := 79) (tp_cl (t := t3) hN) w3 (by omega) (by omega)
    have p1' : R.f 79 27 [.ref 1, .int 7] (tp t N) = .ok (.tup xs) (tp t1 N) := p1
    have p2' : R.f 79 30 [.ref 1, .tup xs] (tp t1 N) = .ok (.tup ys) (tp t2 N) := p2
    have p3' : R.f 79 30 [.ref 1, .tup ys] (tp t2 N) = .ok (.tup zs) (tp t3 N) := p3
    refine ⟨_, [sc ns, some (.ref 1), some (.int (0 + i)), some (.tup xs), some (.tup ys), o5, o6, o7], tp t3 N, rfl, .inl ?_, t3, _, _, _, k3, .inr ⟨xs, rfl, w1⟩, rfl, rfl⟩
    simp -implicitDefEqProofs [lb1, p1', p2', p3', h1, h2, h3]) ⟨t, none, none, none, h, .inl rfl, rfl, rfl⟩
  rcases c2 with c2 | ⟨xs, rfl, w⟩
  · rw [rngL_len] at c2; omega
  · exact ⟨t', o2, xs, o4, c1, w, e1⟩
def thr (k : Nat) : List D := (List.replicate k [dTHROW]).flatten
theorem thr_mem {k : Nat} {x : D} (h : x ∈ thr k) : x = dTHROW := by
  obtain ⟨l, h1, h2⟩ := List.mem_flatten.mp h
  rw [List.eq_of_mem_replicate h1] at h2
  exact List.mem_singleton.mp h2
theorem thr_len (k : Nat) : (thr k).length = k := by
  unfold thr
  simp
theorem thr_w {k m : Nat} (h : 2 * k ≤ m) : Ws m 1 (thr k) := Ws.of (n := 2) (fun x hx => by rw [thr_mem hx]; exact ⟨rfl, by simp [nice], by decide, by simp [dpx, dps]⟩) (by rw [thr_len]; exact h)
def lb2 : List S := [.ite (.not (.truth (.call 31 [.var 7]))) [.ret (.con (.bl false))] []]
def lb3 : List S := [.set 5 (.bin false .Add (.con (.int 1990)) (.call 18 [.var 1, .con (.int 20)])), .set 6 (.bin false .Mult (.tup [.tup [.con (.str sTHROW)]]) (.call 18 [.var 1, .con (.int 50)])), .for (.one 7) (.lst false [.call 32 [.con (.int 20)], .call 32 [.con (.int 21)], .bin false .Mult (.tup [.tup [.con (.str sTHROW)]]) (.con (.int 2000)), .bin false .Add (.bin false .Mult (.tup [.tup [.con (.str sTHROW)]]) (.bin false .Sub (.bin false .Sub (.var 5) (.fn false .len [.var 6])) (.con (.int 1)))) (.tup [.tup [.con (.str sREP), .con (.int 2), .bin false .Add (.var 6) (.tup [.tup [.con (.str sTURN), .con (.int 3), .con (.str [66])]])]])]) lb2]
theorem loop_2 {M : MH} {l : List D} (hM : Cl M) (hl : ∀ x ∈ l, gd x = true ∧ D.sz x ≤ 20000 ∧ dpx x ≤ 60) {a0 a1 a2 a3 a4 a5 a6 a7 : Option D} : ∃ a7', forL R ⟨79, none⟩ (.one 7) l none lb2 l [a0, a1, a2, a3, a4, a5, a6, a7] M = .nx [a0, a1, a2, a3, a4, a5, a6, a7'] M := by
  obtain ⟨ρ2, M2, e1, a7', rfl, rfl⟩ := for_nx (P := pg) (c := ⟨79, none⟩) (g := .one 7) (all := l) (b := lb2)
    (fun i ρ M' => ∃ a7, M' = M ∧ ρ = [a0, a1, a2, a3, a4, a5, a6, a7]) (l := l) (s := 0) (ρ := [a0, a1, a2, a3, a4, a5, a6, a7]) (M := M) (by
    rintro i x ρ M' hi ⟨a7, rfl, rfl⟩
    obtain ⟨h1, h2, h3⟩ := hl x (List.mem_of_getElem? hi)
    have q := held_ok (d := 79) (k := 60) hM h1 h3 (by omega) (by omega)
    refine ⟨_, [a0, a1, a2, a3, a4, a5, a6, some x], M', rfl, .inl ?_, _, rfl, rfl⟩
    simp -implicitDefEqProofs [lb2, q]) ⟨a7, rfl, rfl⟩
  exact ⟨a7', e1⟩
theorem law_3 {t : List Int × Int} {N : MH} (h : ok t) (hN : Nr N) {a0 a2 a3 a4 : Option D} : ∃ ρ' M', R.ss ⟨79, none⟩ lb3 [a0, some (.ref 1), a2, a3, a4, none, none, none] (tp t N) = .nx ρ' M' ∧ ∃ t', ok t' ∧ M' = tp t' N := by
  have hlim : lim = 16777216 := rfl
  obtain ⟨t1, v, k1, kv, p1⟩ := pick (N := N) (d := 78) h hN (many := 20) (by decide) (by decide)
  obtain ⟨t2, w, k2, kw, p2⟩ := pick (N := N) (d := 78) k1 hN (many := 50) (by decide) (by decide)
  have p1' : R.f 79 18 [.ref 1, .int 20] (tp t N) = .ok (.int v) (tp t1 N) := p1
  have p2' : R.f 79 18 [.ref 1, .int 50] (tp t1 N) = .ok (.int w) (tp t2 N) := p2
  have cl := tp_cl (t := t2) hN
  have n1 : R.f 79 32 [.int 20] (tp t2 N) = .ok (nst 20) (tp t2 N) := nested_ok (n := 20) (d := 78) cl (by decide)
  have n2 : R.f 79 32 [.int 21] (tp t2 N) = .ok (nst 21) (tp t2 N) := nested_ok (n := 21) (d := 78) cl (by decide)
  obtain ⟨k, hk, hk2⟩ : ∃ k : Nat, (1990 : Int) + (v : Int) - (w : Int) - 1 = k ∧ k ≤ 2010 := ⟨1990 + v - w - 1, by omega, by omega⟩
  have m1 : binD false (tp t2 N) .Mult (.tup [dTHROW]) (.int w) = .ok (.tup (thr w)) (tp t2 N) := mul_tupB (by simp; omega) (by omega)
  have m2 : binD false (tp t2 N) .Mult (.tup [dTHROW]) (.int 2000) = .ok (.tup (thr 2000)) (tp t2 N) := mul_tupB (k := 2000) (by simp) (by omega)
  have m3 : binD false (tp t2 N) .Mult (.tup [dTHROW]) (.int k) = .ok (.tup (thr k)) (tp t2 N) := mul_tupB (by simp; omega) (by omega)
  have lw := thr_len w
  have lk := thr_len k
  have y1 := add_tup (m := false) (M := tp t2 N) (xs := thr w) (ys := [tr (.int 3) (.str [66])]) (by rw [lw, hlim]; simp; omega)
  have y2 := add_tup (m := false) (M := tp t2 N) (xs := thr k) (ys := [rq (.int 2) (.tup (thr w ++ [tr (.int 3) (.str [66])]))]) (by rw [lk, hlim]; simp; omega)
  have wT : W 4 1 (tr (.int 3) (.str [66])) := ⟨rfl, by simp [nice], by decide, by simp [dpx, dps]⟩
  have wI : Ws 104 1 (thr w ++ [tr (.int 3) (.str [66])]) := (Ws.app (thr_w (k := w) (m := 100) (by omega)) (Ws.of (m := 4) (xs := [tr (.int 3) (.str [66])]) (fun x hx => by rw [List.mem_singleton.mp hx]; exact wT) (by simp))).up (by omega) (by omega)
  have wR : W 200 10 (rq (.int 2) (.tup (thr w ++ [tr (.int 3) (.str [66])]))) := ⟨gds_of fun y hy => by
      simp only [List.mem_cons, List.mem_nil_iff, or_false] at hy
      rcases hy with rfl | rfl | rfl
      · rfl
      · rfl
      · exact wI.g, nice3 rfl wI.c, by
      show 1 + (1 + (1 + (1 + D.szs (thr w ++ [tr (.int 3) (.str [66])]) + 0))) ≤ 200
      have := wI.z
      omega, by
      have e : dpx (rq (.int 2) (.tup (thr w ++ [tr (.int 3) (.str [66])]))) = 1 + (1 + dps (thr w ++ [tr (.int 3) (.str [66])])) := by simp [dpx, dps]
      have := wI.p
      omega⟩
  have wL : Ws 5000 10 (thr k ++ [rq (.int 2) (.tup (thr w ++ [tr (.int 3) (.str [66])]))]) := (Ws.app (thr_w (k := k) (m := 4020) (by omega)) (Ws.of (n := 200) (k := 10) (m := 200) (xs := [rq (.int 2) (.tup (thr w ++ [tr (.int 3) (.str [66])]))]) (fun x hx => by rw [List.mem_singleton.mp hx]; exact wR) (by simp))).up (by omega) (by omega)
  have w2 : Ws 4000 1 (thr 2000) := thr_w (by omega)
  obtain ⟨a7', p3⟩ := loop_2 (M := tp t2 N) (l := [nst 20, nst 21, .tup (thr 2000), .tup (thr k ++ [rq (.int 2) (.tup (thr w ++ [tr (.int 3) (.str [66])]))])]) (a0 := a0) (a1 := some (.ref 1)) (a2 := a2) (a3 := a3) (a4 := a4) (a5 := some (.int (1990 + v))) (a6 := some (.tup (thr w))) (a7 := none) cl (fun x hx => by
    simp only [List.mem_cons, List.mem_nil_iff, or_false] at hx
    rcases hx with rfl | rfl | rfl | rfl
    · exact ⟨nst_gd 20, by rw [nst_sz]; omega, by rw [nst_dpx]; omega⟩
    · exact ⟨nst_gd 21, by rw [nst_sz]; omega, by rw [nst_dpx]; omega⟩
    · exact ⟨w2.g, by show 1 + D.szs _ ≤ _; have := w2.z; omega, by rw [dpx]; have := w2.p; omega⟩
    · exact ⟨wL.g, by show 1 + D.szs _ ≤ _; have := wL.z; omega, by rw [dpx]; have := wL.p; omega⟩)
  refine ⟨[a0, some (.ref 1), a2, a3, a4, some (.int (1990 + v)), some (.tup (thr w)), a7'], tp t2 N, ?_, t2, k2, rfl⟩
  generalize thr w ++ [tr (.int 3) (.str [66])] = I at *
  generalize thr k ++ [rq (.int 2) (.tup I)] = L at *
  generalize nst 20 = n20 at *
  generalize nst 21 = n21 at *
  generalize thr 2000 = t2000 at *
  generalize thr k = tk at *
  generalize thr w = tw at *
  unfold lb3
  generalize lb2 = B at *
  simp -implicitDefEqProofs [p1', p2', m1, lim, n1, n2, m2, lw, hk, m3, y1, y2]
  rw [p3]
  rfl
theorem law_plain : ∀ ns : List Int, ns.length ≤ 63 → ∃ M, (LX.run LK.pg).f 80 34 [.fl (ns.map .int)] [] = .ok (.bl true) M := by
  intro ns hn
  obtain ⟨t, h, p⟩ := tape_ok (d := 78) hn
  have p' : R.f 79 17 [.fl (ns.map .int)] [] = .ok (.ref 1) (tp t []) := p
  obtain ⟨t1, h1, p1⟩ := hand_ok (d := 79) h (by omega)
  obtain ⟨t2, o2, xs, o4, h2, w2, p2⟩ := law_1 (ns := ns) (o5 := none) (o6 := none) (o7 := none) h1 Nr.nil
  have P8 : ∀ x ∈ [D.non, .tl xs, .str [], .int 0, .str sTHROW, dTHROW, .tup [.tup xs], .bl true], gd x = true ∧ D.sz x ≤ 100 ∧ dpx x ≤ 20 := fun x hx => by
    have wz := w2.z
    have wp := w2.p
    simp only [List.mem_cons, List.mem_nil_iff, or_false] at hx
    rcases hx with rfl | rfl | rfl | rfl | rfl | rfl | rfl | rfl
    · exact ⟨rfl, by decide, by simp [dpx]⟩
    · exact ⟨gds_und w2.g, by show 1 ≤ 100; omega, by simp [dpx]⟩
    · exact ⟨rfl, by decide, by simp [dpx]⟩
    · exact ⟨rfl, by decide, by simp [dpx]⟩
    · exact ⟨rfl, by decide, by simp [dpx]⟩
    · exact ⟨rfl, by decide, by simp [dpx, dps]⟩
    · exact ⟨gds_of fun y hy => by rw [List.mem_singleton.mp hy]; exact w2.g, by show 1 + (1 + D.szs xs + 0) ≤ 100; omega, by
        have e : dpx (.tup [.tup xs]) = 1 + (1 + dps xs) := by simp [dpx, dps]
        omega⟩
    · exact ⟨rfl, by decide, by simp [dpx]⟩
  obtain ⟨t3, y, h3, hy, p3⟩ := one (xs := [D.non, .tl xs, .str [], .int 0, .str sTHROW, dTHROW, .tup [.tup xs], .bl true]) (N := []) (d := 77) h2 Nr.nil (by simp) (by simp) (fun x hx => gd_und (P8 x hx).1)
  have p3' : R.f 79 19 [.ref 1, .tl [D.non, .tl xs, .str [], .int 0, .str sTHROW, dTHROW, .tup [.tup xs], .bl true]] (tp t2 []) = .ok y (tp t3 []) := p3
  obtain ⟨gy, zy, dy⟩ := P8 y hy
  have q3 := held_ok (d := 79) (k := 20) (tp_cl (t := t3) Nr.nil) gy dy (by omega) (by omega)
  obtain ⟨t4, w, h4, hw, p4⟩ := pick (N := []) (d := 78) h3 Nr.nil (many := 11) (by decide) (by decide)
  have p4' : R.f 79 18 [.ref 1, .int 11] (tp t3 []) = .ok (.int w) (tp t4 []) := p4
  obtain ⟨ρ5, M5, p5, t5, h5, rfl⟩ := law_3 (N := []) (a0 := sc ns) (a2 := o2) (a3 := some (.tup xs)) (a4 := o4) h4 Nr.nil
  have r3 : rng1D (.int 3) = some (rngL 0 3) := rng1_nat (n := 3) (by decide)
  have eb : f_34.body = [.set 1 (.call 17 [.var 0]), .ite (.not (.truth (.call 33 [.var 1]))) [.ret (.con (.bl false))] [], .for (.one 2) (.rng1 (.con (.int 3))) lb1, .ite (.not (.truth (.call 31 [.call 19 [.var 1, .lst false [.con .non, .fn false .list [.var 3], .con (.str []), .con (.int 0), .con (.str sTHROW), .tup [.con (.str sTHROW)], .tup [.var 3], .con (.bl true)]]]))) [.ret (.con (.bl false))] [], .ite (.cmp .Eq (.call 18 [.var 1, .con (.int 11)]) (.con (.int 4))) lb3 [], .ret (.con (.bl true))] := rfl
  rw [call_eq (d := 79) (t := f_34) rfl rfl]
  show ∃ M, endF true 0 (R.ss ⟨79, none⟩ f_34.body [some (.fl (ns.map .int)), none, none, none, none, none, none, none] []) = .ok (.bl true) M
  rw [eb]
  generalize lb1 = B1 at *
  generalize lb3 = B3 at *
  simp -implicitDefEqProofs [p', p1, r3]
  rw [p2]
  simp -implicitDefEqProofs [lim, p3', q3, p4']
  by_cases h13 : (w : Int) = 4
  · simp -implicitDefEqProofs [h13, p5]
    exact ⟨[], endF_vC (M := []) rfl (by simp) rfl⟩
  · have : ((w : Int) == 4) = false := beq_eq_false_iff_ne.mpr h13
    simp -implicitDefEqProofs [this]
    exact ⟨[], endF_vC (M := []) rfl (by simp) rfl⟩
end LK

namespace LK
open PySem L2 LX PyProof.Rows
theorem all_mk (hplain : ∀ ns : List Int, ns.length ≤ 63 → ∃ M, (run pg).f 80 34 [.fl (ns.map .int)] [] = .ok (.bl true) M) {l : PySem.W.OpenLaw} {w : World} {K : PySem.W.Frag} {h : Heap} {mg : Str → Option Value} {fa : Addr} (X : K.In h) (G : h.Ns mainGlobals mg) (hfa : mg "law" = some (.ref fa))
    {g_0 g_1 g_2 g_3 g_4 g_5 g_6 g_7 g_8 g_9 g_10 g_11 g_12 g_13 g_14 g_15 g_16 g_17 g_18 g_19 g_20 g_21 g_22 g_23 g_24 g_25 g_26 g_27 g_28 g_29 g_30 g_31 g_32 g_33 g_34 x_0 x_1 x_2 x_3 x_4 y_0 : Addr} {od_0 an_0 od_1 an_1 od_2 an_2 od_3 an_3 od_4 an_4 od_5 an_5 od_6 an_6 od_7 an_7 od_8 an_8 od_9 an_9 od_10 an_10 od_11 an_11 od_12 an_12 od_13 an_13 od_14 an_14 od_15 an_15 od_16 an_16 od_17 an_17 od_18 an_18 od_19 an_19 od_20 an_20 od_21 an_21 od_22 an_22 od_23 an_23 od_24 an_24 od_25 an_25 od_26 an_26 od_27 an_27 od_28 an_28 od_29 an_29 od_30 an_30 od_31 an_31 od_32 an_32 od_33 an_33 od_34 an_34 od_i0 an_i0 : Option Addr} {sl_0 sl_1 sl_2 sl_3 sl_4 sl_5 sl_6 sl_7 sl_8 sl_9 sl_10 sl_11 sl_12 sl_13 sl_14 sl_15 sl_16 sl_17 sl_18 sl_19 sl_20 sl_21 sl_22 sl_23 sl_24 sl_25 sl_26 sl_27 sl_28 sl_29 sl_30 sl_31 sl_32 sl_33 sl_34 sl_i0 : Array (Option Value)} {oc_0 kV_0 dc_0 pm_0 cd_0 ct_0 oc_1 kV_1 dc_1 pm_1 cd_1 ct_1 oc_2 kV_2 dc_2 pm_2 cd_2 ct_2 oc_3 kV_3 dc_3 pm_3 cd_3 ct_3 oc_4 kV_4 dc_4 pm_4 cd_4 ct_4 oc_5 kV_5 dc_5 pm_5 cd_5 ct_5 oc_6 kV_6 dc_6 pm_6 cd_6 ct_6 oc_7 kV_7 dc_7 pm_7 cd_7 ct_7 oc_8 kV_8 dc_8 pm_8 cd_8 ct_8 oc_9 kV_9 dc_9 pm_9 cd_9 ct_9 oc_10 kV_10 dc_10 pm_10 cd_10 ct_10 oc_11 kV_11 dc_11 pm_11 cd_11 ct_11 oc_12 kV_12 dc_12 pm_12 cd_12 ct_12 oc_13 kV_13 dc_13 pm_13 cd_13 ct_13 oc_14 kV_14 dc_14 pm_14 cd_14 ct_14 oc_15 kV_15 dc_15 pm_15 cd_15 ct_15 oc_16 kV_16 dc_16 pm_16 cd_16 ct_16 oc_17 kV_17 dc_17 pm_17 cd_17 ct_17 oc_18 kV_18 dc_18 pm_18 cd_18 ct_18 oc_19 kV_19 dc_19 pm_19 cd_19 ct_19 oc_20 kV_20 dc_20 pm_20 cd_20 ct_20 oc_21 kV_21 dc_21 pm_21 cd_21 ct_21 oc_22 kV_22 dc_22 pm_22 cd_22 ct_22 oc_23 kV_23 dc_23 pm_23 cd_23 ct_23 oc_24 kV_24 dc_24 pm_24 cd_24 ct_24 oc_25 kV_25 dc_25 pm_25 cd_25 ct_25 oc_26 kV_26 dc_26 pm_26 cd_26 ct_26 oc_27 kV_27 dc_27 pm_27 cd_27 ct_27 oc_28 kV_28 dc_28 pm_28 cd_28 ct_28 oc_29 kV_29 dc_29 pm_29 cd_29 ct_29 oc_30 kV_30 dc_30 pm_30 cd_30 ct_30 oc_31 kV_31 dc_31 pm_31 cd_31 ct_31 oc_32 kV_32 dc_32 pm_32 cd_32 ct_32 oc_33 kV_33 dc_33 pm_33 cd_33 ct_33 oc_34 kV_34 dc_34 pm_34 cd_34 ct_34 oc_i0 kV_i0 dc_i0 pm_i0 cd_i0 ct_i0 : Value} {nm_0 qu_0 : Str} {N_0 : Addr} {bs_0 : List Value} {sn_0 : List Str} {sb_0 : List Value} {ab_0 : Bool} {co_0 : Option Bool} {dd_0 : Option Addr} {m0_0 m1_0 m2_0 m3_0 m5_0 : Option Value} {t_0 : Tok} {t_1 : Tok} {t_2 : Tok} {t_3 : Tok} {t_4 : Tok} {t_5 : Tok} {t_6 : Tok} {t_7 : Tok} {t_8 : Tok} {t_9 : Tok} {t_10 : Tok} {t_11 : Tok} {t_12 : Tok} {t_13 : Tok} {t_14 : Tok} {tda_0 : Addr} {tdn_0 : Nat}
    (a_0 : PySem.W.nsIn K mainGlobals "is_whole" = some (some (.ref g_0)))
    (l_0 : K.lookup g_0 = some ⟨oc_0, od_0, .func (PySem.W.fnOf "is_whole" "is_whole" (defArgs s_0) (defBody s_0) (defScope s_0) .none kV_0 dc_0 pm_0 an_0 cd_0 ct_0), sl_0⟩)
    (c_0 : PySem.W.codeIn K cd_0 "is_whole" = true)
    (k_0 : PySem.W.keepIn K (.ref g_0) = true)
    (a_1 : PySem.W.nsIn K mainGlobals "is_number" = some (some (.ref g_1)))
    (l_1 : K.lookup g_1 = some ⟨oc_1, od_1, .func (PySem.W.fnOf "is_number" "is_number" (defArgs s_1) (defBody s_1) (defScope s_1) .none kV_1 dc_1 pm_1 an_1 cd_1 ct_1), sl_1⟩)
    (c_1 : PySem.W.codeIn K cd_1 "is_number" = true)
    (k_1 : PySem.W.keepIn K (.ref g_1) = true)
    (a_2 : PySem.W.nsIn K mainGlobals "is_word" = some (some (.ref g_2)))
    (l_2 : K.lookup g_2 = some ⟨oc_2, od_2, .func (PySem.W.fnOf "is_word" "is_word" (defArgs s_2) (defBody s_2) (defScope s_2) .none kV_2 dc_2 pm_2 an_2 cd_2 ct_2), sl_2⟩)
    (c_2 : PySem.W.codeIn K cd_2 "is_word" = true)
    (k_2 : PySem.W.keepIn K (.ref g_2) = true)
    (a_3 : PySem.W.nsIn K mainGlobals "are_numbers" = some (some (.ref g_3)))
    (l_3 : K.lookup g_3 = some ⟨oc_3, od_3, .func (PySem.W.fnOf "are_numbers" "are_numbers" (defArgs s_3) (defBody s_3) (defScope s_3) .none kV_3 dc_3 pm_3 an_3 cd_3 ct_3), sl_3⟩)
    (c_3 : PySem.W.codeIn K cd_3 "are_numbers" = true)
    (k_3 : PySem.W.keepIn K (.ref g_3) = true)
    (a_4 : PySem.W.nsIn K mainGlobals "only_signs" = some (some (.ref g_4)))
    (l_4 : K.lookup g_4 = some ⟨oc_4, od_4, .func (PySem.W.fnOf "only_signs" "only_signs" (defArgs s_4) (defBody s_4) (defScope s_4) .none kV_4 dc_4 pm_4 an_4 cd_4 ct_4), sl_4⟩)
    (c_4 : PySem.W.codeIn K cd_4 "only_signs" = true)
    (k_4 : PySem.W.keepIn K (.ref g_4) = true)
    (a_5 : PySem.W.nsIn K mainGlobals "are_colours" = some (some (.ref g_5)))
    (l_5 : K.lookup g_5 = some ⟨oc_5, od_5, .func (PySem.W.fnOf "are_colours" "are_colours" (defArgs s_5) (defBody s_5) (defScope s_5) .none kV_5 dc_5 pm_5 an_5 cd_5 ct_5), sl_5⟩)
    (c_5 : PySem.W.codeIn K cd_5 "are_colours" = true)
    (k_5 : PySem.W.keepIn K (.ref g_5) = true)
    (a_6 : PySem.W.nsIn K mainGlobals "look_at_word" = some (some (.ref g_6)))
    (l_6 : K.lookup g_6 = some ⟨oc_6, od_6, .func (PySem.W.fnOf "look_at_word" "look_at_word" (defArgs s_6) (defBody s_6) (defScope s_6) .none kV_6 dc_6 pm_6 an_6 cd_6 ct_6), sl_6⟩)
    (c_6 : PySem.W.codeIn K cd_6 "look_at_word" = true)
    (k_6 : PySem.W.keepIn K (.ref g_6) = true)
    (a_7 : PySem.W.nsIn K mainGlobals "is_low" = some (some (.ref g_7)))
    (l_7 : K.lookup g_7 = some ⟨oc_7, od_7, .func (PySem.W.fnOf "is_low" "is_low" (defArgs s_7) (defBody s_7) (defScope s_7) .none kV_7 dc_7 pm_7 an_7 cd_7 ct_7), sl_7⟩)
    (c_7 : PySem.W.codeIn K cd_7 "is_low" = true)
    (k_7 : PySem.W.keepIn K (.ref g_7) = true)
    (a_8 : PySem.W.nsIn K mainGlobals "look_at_thread" = some (some (.ref g_8)))
    (l_8 : K.lookup g_8 = some ⟨oc_8, od_8, .func (PySem.W.fnOf "look_at_thread" "look_at_thread" (defArgs s_8) (defBody s_8) (defScope s_8) .none kV_8 dc_8 pm_8 an_8 cd_8 ct_8), sl_8⟩)
    (c_8 : PySem.W.codeIn K cd_8 "look_at_thread" = true)
    (k_8 : PySem.W.keepIn K (.ref g_8) = true)
    (a_9 : PySem.W.nsIn K mainGlobals "look_at_pack" = some (some (.ref g_9)))
    (l_9 : K.lookup g_9 = some ⟨oc_9, od_9, .func (PySem.W.fnOf "look_at_pack" "look_at_pack" (defArgs s_9) (defBody s_9) (defScope s_9) .none kV_9 dc_9 pm_9 an_9 cd_9 ct_9), sl_9⟩)
    (c_9 : PySem.W.codeIn K cd_9 "look_at_pack" = true)
    (k_9 : PySem.W.keepIn K (.ref g_9) = true)
    (a_10 : PySem.W.nsIn K mainGlobals "look_at_repeat" = some (some (.ref g_10)))
    (l_10 : K.lookup g_10 = some ⟨oc_10, od_10, .func (PySem.W.fnOf "look_at_repeat" "look_at_repeat" (defArgs s_10) (defBody s_10) (defScope s_10) .none kV_10 dc_10 pm_10 an_10 cd_10 ct_10), sl_10⟩)
    (c_10 : PySem.W.codeIn K cd_10 "look_at_repeat" = true)
    (k_10 : PySem.W.keepIn K (.ref g_10) = true)
    (a_11 : PySem.W.nsIn K mainGlobals "look_at" = some (some (.ref g_11)))
    (l_11 : K.lookup g_11 = some ⟨oc_11, od_11, .func (PySem.W.fnOf "look_at" "look_at" (defArgs s_11) (defBody s_11) (defScope s_11) .none kV_11 dc_11 pm_11 an_11 cd_11 ct_11), sl_11⟩)
    (c_11 : PySem.W.codeIn K cd_11 "look_at" = true)
    (k_11 : PySem.W.keepIn K (.ref g_11) = true)
    (a_12 : PySem.W.nsIn K mainGlobals "gone_through" = some (some (.ref g_12)))
    (l_12 : K.lookup g_12 = some ⟨oc_12, od_12, .func (PySem.W.fnOf "gone_through" "gone_through" (defArgs s_12) (defBody s_12) (defScope s_12) .none kV_12 dc_12 pm_12 an_12 cd_12 ct_12), sl_12⟩)
    (c_12 : PySem.W.codeIn K cd_12 "gone_through" = true)
    (k_12 : PySem.W.keepIn K (.ref g_12) = true)
    (a_13 : PySem.W.nsIn K mainGlobals "check_code" = some (some (.ref g_13)))
    (l_13 : K.lookup g_13 = some ⟨oc_13, od_13, .func (PySem.W.fnOf "check_code" "check_code" (defArgs s_13) (defBody s_13) (defScope s_13) .none kV_13 dc_13 pm_13 an_13 cd_13 ct_13), sl_13⟩)
    (c_13 : PySem.W.codeIn K cd_13 "check_code" = true)
    (k_13 : PySem.W.keepIn K (.ref g_13) = true)
    (a_14 : PySem.W.nsIn K mainGlobals "is_code" = some (some (.ref g_14)))
    (l_14 : K.lookup g_14 = some ⟨oc_14, od_14, .func (PySem.W.fnOf "is_code" "is_code" (defArgs s_14) (defBody s_14) (defScope s_14) .none kV_14 dc_14 pm_14 an_14 cd_14 ct_14), sl_14⟩)
    (c_14 : PySem.W.codeIn K cd_14 "is_code" = true)
    (k_14 : PySem.W.keepIn K (.ref g_14) = true)
    (a_15 : PySem.W.nsIn K mainGlobals "code_size" = some (some (.ref g_15)))
    (l_15 : K.lookup g_15 = some ⟨oc_15, od_15, .func (PySem.W.fnOf "code_size" "code_size" (defArgs s_15) (defBody s_15) (defScope s_15) .none kV_15 dc_15 pm_15 an_15 cd_15 ct_15), sl_15⟩)
    (c_15 : PySem.W.codeIn K cd_15 "code_size" = true)
    (k_15 : PySem.W.keepIn K (.ref g_15) = true)
    (a_16 : PySem.W.nsIn K mainGlobals "code_depth" = some (some (.ref g_16)))
    (l_16 : K.lookup g_16 = some ⟨oc_16, od_16, .func (PySem.W.fnOf "code_depth" "code_depth" (defArgs s_16) (defBody s_16) (defScope s_16) .none kV_16 dc_16 pm_16 an_16 cd_16 ct_16), sl_16⟩)
    (c_16 : PySem.W.codeIn K cd_16 "code_depth" = true)
    (k_16 : PySem.W.keepIn K (.ref g_16) = true)
    (a_17 : PySem.W.nsIn K mainGlobals "_law_tape" = some (some (.ref g_17)))
    (l_17 : K.lookup g_17 = some ⟨oc_17, od_17, .func (PySem.W.fnOf "_law_tape" "_law_tape" (defArgs s_17) (defBody s_17) (defScope s_17) .none kV_17 dc_17 pm_17 an_17 cd_17 ct_17), sl_17⟩)
    (c_17 : PySem.W.codeIn K cd_17 "_law_tape" = true)
    (k_17 : PySem.W.keepIn K (.ref g_17) = true)
    (a_18 : PySem.W.nsIn K mainGlobals "_law_pick" = some (some (.ref g_18)))
    (l_18 : K.lookup g_18 = some ⟨oc_18, od_18, .func (PySem.W.fnOf "_law_pick" "_law_pick" (defArgs s_18) (defBody s_18) (defScope s_18) .none kV_18 dc_18 pm_18 an_18 cd_18 ct_18), sl_18⟩)
    (c_18 : PySem.W.codeIn K cd_18 "_law_pick" = true)
    (k_18 : PySem.W.keepIn K (.ref g_18) = true)
    (a_19 : PySem.W.nsIn K mainGlobals "_law_one" = some (some (.ref g_19)))
    (l_19 : K.lookup g_19 = some ⟨oc_19, od_19, .func (PySem.W.fnOf "_law_one" "_law_one" (defArgs s_19) (defBody s_19) (defScope s_19) .none kV_19 dc_19 pm_19 an_19 cd_19 ct_19), sl_19⟩)
    (c_19 : PySem.W.codeIn K cd_19 "_law_one" = true)
    (k_19 : PySem.W.keepIn K (.ref g_19) = true)
    (a_20 : PySem.W.nsIn K mainGlobals "_law_mixed" = some (some (.ref g_20)))
    (l_20 : K.lookup g_20 = some ⟨oc_20, od_20, .func (PySem.W.fnOf "_law_mixed" "_law_mixed" (defArgs s_20) (defBody s_20) (defScope s_20) .none kV_20 dc_20 pm_20 an_20 cd_20 ct_20), sl_20⟩)
    (c_20 : PySem.W.codeIn K cd_20 "_law_mixed" = true)
    (k_20 : PySem.W.keepIn K (.ref g_20) = true)
    (a_21 : PySem.W.nsIn K mainGlobals "_law_same" = some (some (.ref g_21)))
    (l_21 : K.lookup g_21 = some ⟨oc_21, od_21, .func (PySem.W.fnOf "_law_same" "_law_same" (defArgs s_21) (defBody s_21) (defScope s_21) .none kV_21 dc_21 pm_21 an_21 cd_21 ct_21), sl_21⟩)
    (c_21 : PySem.W.codeIn K cd_21 "_law_same" = true)
    (k_21 : PySem.W.keepIn K (.ref g_21) = true)
    (a_22 : PySem.W.nsIn K mainGlobals "_law_whole" = some (some (.ref g_22)))
    (l_22 : K.lookup g_22 = some ⟨oc_22, od_22, .func (PySem.W.fnOf "_law_whole" "_law_whole" (defArgs s_22) (defBody s_22) (defScope s_22) .none kV_22 dc_22 pm_22 an_22 cd_22 ct_22), sl_22⟩)
    (c_22 : PySem.W.codeIn K cd_22 "_law_whole" = true)
    (k_22 : PySem.W.keepIn K (.ref g_22) = true)
    (a_23 : PySem.W.nsIn K mainGlobals "_law_word" = some (some (.ref g_23)))
    (l_23 : K.lookup g_23 = some ⟨oc_23, od_23, .func (PySem.W.fnOf "_law_word" "_law_word" (defArgs s_23) (defBody s_23) (defScope s_23) .none kV_23 dc_23 pm_23 an_23 cd_23 ct_23), sl_23⟩)
    (c_23 : PySem.W.codeIn K cd_23 "_law_word" = true)
    (k_23 : PySem.W.keepIn K (.ref g_23) = true)
    (a_24 : PySem.W.nsIn K mainGlobals "_law_checked" = some (some (.ref g_24)))
    (l_24 : K.lookup g_24 = some ⟨oc_24, od_24, .func (PySem.W.fnOf "_law_checked" "_law_checked" (defArgs s_24) (defBody s_24) (defScope s_24) .none kV_24 dc_24 pm_24 an_24 cd_24 ct_24), sl_24⟩)
    (c_24 : PySem.W.codeIn K cd_24 "_law_checked" = true)
    (k_24 : PySem.W.keepIn K (.ref g_24) = true)
    (a_25 : PySem.W.nsIn K mainGlobals "_law_colours" = some (some (.ref g_25)))
    (l_25 : K.lookup g_25 = some ⟨oc_25, od_25, .func (PySem.W.fnOf "_law_colours" "_law_colours" (defArgs s_25) (defBody s_25) (defScope s_25) .none kV_25 dc_25 pm_25 an_25 cd_25 ct_25), sl_25⟩)
    (c_25 : PySem.W.codeIn K cd_25 "_law_colours" = true)
    (k_25 : PySem.W.keepIn K (.ref g_25) = true)
    (a_26 : PySem.W.nsIn K mainGlobals "_law_instruction" = some (some (.ref g_26)))
    (l_26 : K.lookup g_26 = some ⟨oc_26, od_26, .func (PySem.W.fnOf "_law_instruction" "_law_instruction" (defArgs s_26) (defBody s_26) (defScope s_26) .none kV_26 dc_26 pm_26 an_26 cd_26 ct_26), sl_26⟩)
    (c_26 : PySem.W.codeIn K cd_26 "_law_instruction" = true)
    (k_26 : PySem.W.keepIn K (.ref g_26) = true)
    (a_27 : PySem.W.nsIn K mainGlobals "_law_code" = some (some (.ref g_27)))
    (l_27 : K.lookup g_27 = some ⟨oc_27, od_27, .func (PySem.W.fnOf "_law_code" "_law_code" (defArgs s_27) (defBody s_27) (defScope s_27) .none kV_27 dc_27 pm_27 an_27 cd_27 ct_27), sl_27⟩)
    (c_27 : PySem.W.codeIn K cd_27 "_law_code" = true)
    (k_27 : PySem.W.keepIn K (.ref g_27) = true)
    (a_28 : PySem.W.nsIn K mainGlobals "_law_told" = some (some (.ref g_28)))
    (l_28 : K.lookup g_28 = some ⟨oc_28, od_28, .func (PySem.W.fnOf "_law_told" "_law_told" (defArgs s_28) (defBody s_28) (defScope s_28) .none kV_28 dc_28 pm_28 an_28 cd_28 ct_28), sl_28⟩)
    (c_28 : PySem.W.codeIn K cd_28 "_law_told" = true)
    (k_28 : PySem.W.keepIn K (.ref g_28) = true)
    (a_29 : PySem.W.nsIn K mainGlobals "_law_odd" = some (some (.ref g_29)))
    (l_29 : K.lookup g_29 = some ⟨oc_29, od_29, .func (PySem.W.fnOf "_law_odd" "_law_odd" (defArgs s_29) (defBody s_29) (defScope s_29) .none kV_29 dc_29 pm_29 an_29 cd_29 ct_29), sl_29⟩)
    (c_29 : PySem.W.codeIn K cd_29 "_law_odd" = true)
    (k_29 : PySem.W.keepIn K (.ref g_29) = true)
    (a_30 : PySem.W.nsIn K mainGlobals "_law_bent" = some (some (.ref g_30)))
    (l_30 : K.lookup g_30 = some ⟨oc_30, od_30, .func (PySem.W.fnOf "_law_bent" "_law_bent" (defArgs s_30) (defBody s_30) (defScope s_30) .none kV_30 dc_30 pm_30 an_30 cd_30 ct_30), sl_30⟩)
    (c_30 : PySem.W.codeIn K cd_30 "_law_bent" = true)
    (k_30 : PySem.W.keepIn K (.ref g_30) = true)
    (a_31 : PySem.W.nsIn K mainGlobals "_law_held" = some (some (.ref g_31)))
    (l_31 : K.lookup g_31 = some ⟨oc_31, od_31, .func (PySem.W.fnOf "_law_held" "_law_held" (defArgs s_31) (defBody s_31) (defScope s_31) .none kV_31 dc_31 pm_31 an_31 cd_31 ct_31), sl_31⟩)
    (c_31 : PySem.W.codeIn K cd_31 "_law_held" = true)
    (k_31 : PySem.W.keepIn K (.ref g_31) = true)
    (a_32 : PySem.W.nsIn K mainGlobals "_law_nested" = some (some (.ref g_32)))
    (l_32 : K.lookup g_32 = some ⟨oc_32, od_32, .func (PySem.W.fnOf "_law_nested" "_law_nested" (defArgs s_32) (defBody s_32) (defScope s_32) .none kV_32 dc_32 pm_32 an_32 cd_32 ct_32), sl_32⟩)
    (c_32 : PySem.W.codeIn K cd_32 "_law_nested" = true)
    (k_32 : PySem.W.keepIn K (.ref g_32) = true)
    (a_33 : PySem.W.nsIn K mainGlobals "_law_by_hand" = some (some (.ref g_33)))
    (l_33 : K.lookup g_33 = some ⟨oc_33, od_33, .func (PySem.W.fnOf "_law_by_hand" "_law_by_hand" (defArgs s_33) (defBody s_33) (defScope s_33) .none kV_33 dc_33 pm_33 an_33 cd_33 ct_33), sl_33⟩)
    (c_33 : PySem.W.codeIn K cd_33 "_law_by_hand" = true)
    (k_33 : PySem.W.keepIn K (.ref g_33) = true)
    (a_34 : PySem.W.nsIn K mainGlobals "law" = some (some (.ref g_34)))
    (l_34 : K.lookup g_34 = some ⟨oc_34, od_34, .func (PySem.W.fnOf "law" "law" (defArgs s_34) (defBody s_34) (defScope s_34) .none kV_34 dc_34 pm_34 an_34 cd_34 ct_34), sl_34⟩)
    (c_34 : PySem.W.codeIn K cd_34 "law" = true)
    (k_34 : PySem.W.keepIn K (.ref g_34) = true)
    (xa_0 : PySem.W.nsIn K mainGlobals "BadCode" = some (some (.ref x_0)))
    (xi_0 : PySem.W.isClsIn K x_0 = true)
    (xt_0 : PySem.W.typeIn K (.ref x_0) = some (.type "type"))
    (xb_0 : PySem.W.subIn K (.ref x_0) (.type "BaseException") = some true)
    (xa_1 : PySem.W.nsIn K mainGlobals "LoomError" = some (some (.ref x_1)))
    (xi_1 : PySem.W.isClsIn K x_1 = true)
    (xt_1 : PySem.W.typeIn K (.ref x_1) = some (.type "type"))
    (xb_1 : PySem.W.subIn K (.ref x_1) (.type "BaseException") = some true)
    (xa_2 : PySem.W.nsIn K mainGlobals "DataError" = some (some (.ref x_2)))
    (xi_2 : PySem.W.isClsIn K x_2 = true)
    (xt_2 : PySem.W.typeIn K (.ref x_2) = some (.type "type"))
    (xb_2 : PySem.W.subIn K (.ref x_2) (.type "BaseException") = some true)
    (xa_3 : PySem.W.nsIn K mainGlobals "CallError" = some (some (.ref x_3)))
    (xi_3 : PySem.W.isClsIn K x_3 = true)
    (xt_3 : PySem.W.typeIn K (.ref x_3) = some (.type "type"))
    (xb_3 : PySem.W.subIn K (.ref x_3) (.type "BaseException") = some true)
    (xa_4 : PySem.W.nsIn K mainGlobals "RunError" = some (some (.ref x_4)))
    (xi_4 : PySem.W.isClsIn K x_4 = true)
    (xt_4 : PySem.W.typeIn K (.ref x_4) = some (.type "type"))
    (xb_4 : PySem.W.subIn K (.ref x_4) (.type "BaseException") = some true)
    (sp : PySem.W.specialIn K (.builtin "object.__class__") "__get__" = some (some (.builtin "getset_descriptor.__get__")))
    (tk : PySem.W.takesIn K (.builtin "object.__class__") = some true)
    (u_0_0 : PySem.W.subIn K (.ref x_0) (.ref x_0) = some true)
    (u_0_1 : PySem.W.subIn K (.ref x_0) (.ref x_1) = some true)
    (u_0_2 : PySem.W.subIn K (.ref x_0) (.ref x_2) = some true)
    (u_0_3 : PySem.W.subIn K (.ref x_0) (.ref x_3) = some false)
    (u_0_4 : PySem.W.subIn K (.ref x_0) (.ref x_4) = some false)
    (xl_0 : K.lookup x_0 = some (excClassObj nm_0 qu_0 x_0 N_0 bs_0 [.ref x_2, .ref x_1, .type "ValueError", .type "Exception", .type "BaseException", .type "object"] true sn_0 sb_0 ab_0 co_0 dd_0 m0_0 m1_0 m2_0 m3_0 m5_0 "ValueError.__new__"))
    (sa_0 : PySem.W.findIn K (.ref x_0) "__setattr__" = some (some (.builtin "object.__setattr__")))
    (ga_0 : PySem.W.findIn K (.ref x_0) "__getattribute__" = some (some (.builtin "BaseException.__getattribute__")))
    (gg_0 : PySem.W.findIn K (.ref x_0) "__getattr__" = some none)
    (cc_0 : PySem.W.findIn K (.ref x_0) "__class__" = some (some (.builtin "object.__class__")))
    (mr_0 : PySem.W.mroIn K x_0 (.type "object") = some true)
    (hd_0 : PySem.W.hasDictIn K x_0 = true)
    (kc_0 : PySem.W.keepIn K (.ref x_0) = true)
    (nf_0_path : PySem.W.findIn K (.ref x_0) "path" = some none)
    (nf_0_word : PySem.W.findIn K (.ref x_0) "word" = some none)
    (ia_0 : PySem.W.findIn K (.ref x_0) "__init__" = some (some (.ref y_0)))
    (it_0 : PySem.W.typeIn K (.ref y_0) = some (.type "function"))
    (l_i0 : K.lookup y_0 = some ⟨oc_i0, od_i0, .func (PySem.W.fnOf "__init__" "BadCode.__init__" (defArgs i_0) (defBody i_0) (defScope i_0) .none kV_i0 dc_i0 pm_i0 an_i0 cd_i0 ct_i0), sl_i0⟩)
    (c_i0 : PySem.W.codeIn K cd_i0 "BadCode.__init__" = true)
    (k_i0 : PySem.W.keepIn K (.ref y_0) = true)
    (b_0 : PySem.W.nsIn K mainGlobals "abs" = some none)
    (b_1 : PySem.W.nsIn K mainGlobals "bool" = some none)
    (b_2 : PySem.W.nsIn K mainGlobals "int" = some none)
    (b_3 : PySem.W.nsIn K mainGlobals "isinstance" = some none)
    (b_4 : PySem.W.nsIn K mainGlobals "len" = some none)
    (b_5 : PySem.W.nsIn K mainGlobals "list" = some none)
    (b_6 : PySem.W.nsIn K mainGlobals "max" = some none)
    (b_7 : PySem.W.nsIn K mainGlobals "min" = some none)
    (b_8 : PySem.W.nsIn K mainGlobals "range" = some none)
    (b_9 : PySem.W.nsIn K mainGlobals "sorted" = some none)
    (b_10 : PySem.W.nsIn K mainGlobals "str" = some none)
    (b_11 : PySem.W.nsIn K mainGlobals "tuple" = some none)
    (q_0 : PySem.W.nsIn K mainGlobals "MOST_TABLETS" = some (some (.int 24 t_0)))
    (q_1 : PySem.W.nsIn K mainGlobals "MOST_REPEAT" = some (some (.int 40 t_1)))
    (q_2 : PySem.W.nsIn K mainGlobals "MOST_INSTRUCTIONS" = some (some (.int 2000 t_2)))
    (q_3 : PySem.W.nsIn K mainGlobals "MOST_REPEATS" = some (some (.int 20 t_3)))
    (q_4 : PySem.W.nsIn K mainGlobals "COLOURS" = some (some (.str "ABCDEFGHIJKLMNOPQRSTUVWXYZ" t_4)))
    (td_0 : PySem.W.nsIn K mainGlobals "LENGTHS" = some (some (.ref tda_0)))
    (tl_0 : K.lookup tda_0 = some ⟨.type "dict", none, .dict #[⟨PyData.keyHash w.params "thread", .str "thread" t_5, .int 3 t_6⟩, ⟨PyData.keyHash w.params "pack", .str "pack" t_7, .int 3 t_8⟩, ⟨PyData.keyHash w.params "turn", .str "turn" t_9, .int 3 t_10⟩, ⟨PyData.keyHash w.params "throw", .str "throw" t_11, .int 1 t_12⟩, ⟨PyData.keyHash w.params "repeat", .str "repeat" t_13, .int 3 t_14⟩] tdn_0, #[]⟩)
    (ts_0 : (tda_0 == sysModules) = false)
    : ∃ fd : FuncData, (∀ (s : Shared) (v : Value), BindsTo s fd ⟨[v], []⟩ [("script", v)]) ∧ ∀ base : Heap, K.In base → base.Ns mainGlobals mg → FnOk l.prog w K mg base (L2.CX l.prog w) 82 fa fd ["script"] (spLaw 63 K) := by
  have e := hfa.symm.trans (PySem.W.mg_of X G a_34)
  cases e
  have O_0 : OexC K x_0 := ⟨⟨nm_0, qu_0, N_0, bs_0, _, sn_0, sb_0, ab_0, co_0, dd_0, m0_0, m1_0, m2_0, m3_0, m5_0, xl_0, by rfl⟩, sa_0, xb_0, xt_0, kc_0⟩
  have XF_0 : XfC K x_0 := ⟨ga_0, gg_0, xb_0, hd_0⟩
  have FI_0 := fun_mk (st := i_0) l_i0 c_i0 k_i0
  have IN_0 : XIni K x_0 ["path", "word"] := ⟨O_0, XF_0, fun f hf => AllI.mem (P := fun f => PySem.W.findIn K (.ref x_0) f = some none) (l := ["path", "word"]) ⟨nf_0_path, nf_0_word, trivial⟩ hf, by decide, by decide, _, _, i_0, _, ["self", "path", "word"], ia_0, it_0, FI_0, fsc_by isc_0, rfl, ixc_0, FI_0.binds (ps := ["self", "path", "word"]) fun _ _ _ _ _ _ us hl => match us, hl with | [_, _, _], _ => rfl⟩
  have tab : Tab w K mg pg tb (fun k => ([x_0, x_1, x_2, x_3, x_4] : List Addr).getD k 0) (fun f => ([g_0, g_1, g_2, g_3, g_4, g_5, g_6, g_7, g_8, g_9, g_10, g_11, g_12, g_13, g_14, g_15, g_16, g_17, g_18, g_19, g_20, g_21, g_22, g_23, g_24, g_25, g_26, g_27, g_28, g_29, g_30, g_31, g_32, g_33, fa] : List Addr).getD f 0) := tab_mk X G ⟨⟨a_0, k_0⟩, ⟨a_1, k_1⟩, ⟨a_2, k_2⟩, ⟨a_3, k_3⟩, ⟨a_4, k_4⟩, ⟨a_5, k_5⟩, ⟨a_6, k_6⟩, ⟨a_7, k_7⟩, ⟨a_8, k_8⟩, ⟨a_9, k_9⟩, ⟨a_10, k_10⟩, ⟨a_11, k_11⟩, ⟨a_12, k_12⟩, ⟨a_13, k_13⟩, ⟨a_14, k_14⟩, ⟨a_15, k_15⟩, ⟨a_16, k_16⟩, ⟨a_17, k_17⟩, ⟨a_18, k_18⟩, ⟨a_19, k_19⟩, ⟨a_20, k_20⟩, ⟨a_21, k_21⟩, ⟨a_22, k_22⟩, ⟨a_23, k_23⟩, ⟨a_24, k_24⟩, ⟨a_25, k_25⟩, ⟨a_26, k_26⟩, ⟨a_27, k_27⟩, ⟨a_28, k_28⟩, ⟨a_29, k_29⟩, ⟨a_30, k_30⟩, ⟨a_31, k_31⟩, ⟨a_32, k_32⟩, ⟨a_33, k_33⟩, ⟨a_34, k_34⟩, trivial⟩ (by decide)
    ⟨xa_0, xa_1, xa_2, xa_3, xa_4, trivial⟩ (by decide) ⟨b_0, b_1, b_2, b_3, b_4, b_5, b_6, b_7, b_8, b_9, b_10, b_11, trivial⟩ ⟨⟨_, q_0, con_int⟩, ⟨_, q_1, con_int⟩, ⟨_, q_2, con_int⟩, ⟨_, q_3, con_int⟩, ⟨_, q_4, (con_str (by decide +kernel) (by decide +kernel))⟩, trivial⟩
    ⟨⟨xi_0, xt_0, xb_0⟩, ⟨xi_1, xt_1, xb_1⟩, ⟨xi_2, xt_2, xb_2⟩, ⟨xi_3, xt_3, xb_3⟩, ⟨xi_4, xt_4, xb_4⟩, trivial⟩ ⟨⟨⟨u_0_0, u_0_1, u_0_2, u_0_3, u_0_4, trivial⟩, by decide, ⟨xi_0, ga_0, gg_0, xb_0, cc_0, sp, tk, mr_0⟩, XF_0, ⟨nf_0_path, nf_0_word, trivial⟩⟩, trivial⟩ (by decide) ⟨⟨_, rfl, IN_0, by decide⟩, trivial⟩ trivial ⟨⟨_, td_0, _, _, tl_0, ts_0, (te_cons (by decide +kernel) con_int (te_cons (by decide +kernel) con_int (te_cons (by decide +kernel) con_int (te_cons (by decide +kernel) con_int (te_cons (by decide +kernel) con_int te_nil)))))⟩, trivial⟩
  have F_0 := fun_mk (st := s_0) l_0 c_0 k_0
  have J_0 : FnJ K tb (fun f => ([g_0, g_1, g_2, g_3, g_4, g_5, g_6, g_7, g_8, g_9, g_10, g_11, g_12, g_13, g_14, g_15, g_16, g_17, g_18, g_19, g_20, g_21, g_22, g_23, g_24, g_25, g_26, g_27, g_28, g_29, g_30, g_31, g_32, g_33, fa] : List Addr).getD f 0) 0 f_0 _ ["thing"] := ⟨_, _, s_0, n_0, F_0, fsc_by scp_0, F_0.binds (ps := ["thing"]) (fun _ _ _ _ _ _ us hl => match us, hl with | [_], _ => rfl), rfl, rfl, by decide, ⟨fun e => absurd e (by decide), trivial⟩, 200, chk_0⟩
  have F_1 := fun_mk (st := s_1) l_1 c_1 k_1
  have J_1 : FnJ K tb (fun f => ([g_0, g_1, g_2, g_3, g_4, g_5, g_6, g_7, g_8, g_9, g_10, g_11, g_12, g_13, g_14, g_15, g_16, g_17, g_18, g_19, g_20, g_21, g_22, g_23, g_24, g_25, g_26, g_27, g_28, g_29, g_30, g_31, g_32, g_33, fa] : List Addr).getD f 0) 1 f_1 _ ["thing"] := ⟨_, _, s_1, n_1, F_1, fsc_by scp_1, F_1.binds (ps := ["thing"]) (fun _ _ _ _ _ _ us hl => match us, hl with | [_], _ => rfl), rfl, rfl, by decide, ⟨fun e => absurd e (by decide), trivial⟩, 200, chk_1⟩
  have F_2 := fun_mk (st := s_2) l_2 c_2 k_2
  have J_2 : FnJ K tb (fun f => ([g_0, g_1, g_2, g_3, g_4, g_5, g_6, g_7, g_8, g_9, g_10, g_11, g_12, g_13, g_14, g_15, g_16, g_17, g_18, g_19, g_20, g_21, g_22, g_23, g_24, g_25, g_26, g_27, g_28, g_29, g_30, g_31, g_32, g_33, fa] : List Addr).getD f 0) 2 f_2 _ ["thing", "words"] := ⟨_, _, s_2, n_2, F_2, fsc_by scp_2, F_2.binds (ps := ["thing", "words"]) (fun _ _ _ _ _ _ us hl => match us, hl with | [_, _], _ => rfl), rfl, rfl, by decide, ⟨fun e => absurd e (by decide), trivial⟩, 200, chk_2⟩
  have F_3 := fun_mk (st := s_3) l_3 c_3 k_3
  have J_3 : FnJ K tb (fun f => ([g_0, g_1, g_2, g_3, g_4, g_5, g_6, g_7, g_8, g_9, g_10, g_11, g_12, g_13, g_14, g_15, g_16, g_17, g_18, g_19, g_20, g_21, g_22, g_23, g_24, g_25, g_26, g_27, g_28, g_29, g_30, g_31, g_32, g_33, fa] : List Addr).getD f 0) 3 f_3 _ ["thing", "most"] := ⟨_, _, s_3, n_3, F_3, fsc_by scp_3, F_3.binds (ps := ["thing", "most"]) (fun _ _ _ _ _ _ us hl => match us, hl with | [_, _], _ => rfl), rfl, rfl, by decide, ⟨fun e => absurd e (by decide), trivial⟩, 200, chk_3⟩
  have F_4 := fun_mk (st := s_4) l_4 c_4 k_4
  have J_4 : FnJ K tb (fun f => ([g_0, g_1, g_2, g_3, g_4, g_5, g_6, g_7, g_8, g_9, g_10, g_11, g_12, g_13, g_14, g_15, g_16, g_17, g_18, g_19, g_20, g_21, g_22, g_23, g_24, g_25, g_26, g_27, g_28, g_29, g_30, g_31, g_32, g_33, fa] : List Addr).getD f 0) 4 f_4 _ ["word", "signs"] := ⟨_, _, s_4, n_4, F_4, fsc_by scp_4, F_4.binds (ps := ["word", "signs"]) (fun _ _ _ _ _ _ us hl => match us, hl with | [_, _], _ => rfl), rfl, rfl, by decide, ⟨fun e => absurd e (by decide), trivial⟩, 200, chk_4⟩
  have F_5 := fun_mk (st := s_5) l_5 c_5 k_5
  have J_5 : FnJ K tb (fun f => ([g_0, g_1, g_2, g_3, g_4, g_5, g_6, g_7, g_8, g_9, g_10, g_11, g_12, g_13, g_14, g_15, g_16, g_17, g_18, g_19, g_20, g_21, g_22, g_23, g_24, g_25, g_26, g_27, g_28, g_29, g_30, g_31, g_32, g_33, fa] : List Addr).getD f 0) 5 f_5 _ ["thing"] := ⟨_, _, s_5, n_5, F_5, fsc_by scp_5, F_5.binds (ps := ["thing"]) (fun _ _ _ _ _ _ us hl => match us, hl with | [_], _ => rfl), rfl, rfl, by decide, ⟨fun e => absurd e (by decide), trivial⟩, 200, chk_5⟩
  have F_6 := fun_mk (st := s_6) l_6 c_6 k_6
  have J_6 : FnJ K tb (fun f => ([g_0, g_1, g_2, g_3, g_4, g_5, g_6, g_7, g_8, g_9, g_10, g_11, g_12, g_13, g_14, g_15, g_16, g_17, g_18, g_19, g_20, g_21, g_22, g_23, g_24, g_25, g_26, g_27, g_28, g_29, g_30, g_31, g_32, g_33, fa] : List Addr).getD f 0) 6 f_6 _ ["thing", "path"] := ⟨_, _, s_6, n_6, F_6, fsc_by scp_6, F_6.binds (ps := ["thing", "path"]) (fun _ _ _ _ _ _ us hl => match us, hl with | [_, _], _ => rfl), rfl, rfl, by decide, ⟨fun e => absurd e (by decide), trivial⟩, 200, chk_6⟩
  have F_7 := fun_mk (st := s_7) l_7 c_7 k_7
  have J_7 : FnJ K tb (fun f => ([g_0, g_1, g_2, g_3, g_4, g_5, g_6, g_7, g_8, g_9, g_10, g_11, g_12, g_13, g_14, g_15, g_16, g_17, g_18, g_19, g_20, g_21, g_22, g_23, g_24, g_25, g_26, g_27, g_28, g_29, g_30, g_31, g_32, g_33, fa] : List Addr).getD f 0) 7 f_7 _ ["thing"] := ⟨_, _, s_7, n_7, F_7, fsc_by scp_7, F_7.binds (ps := ["thing"]) (fun _ _ _ _ _ _ us hl => match us, hl with | [_], _ => rfl), rfl, rfl, by decide, ⟨fun e => absurd e (by decide), trivial⟩, 200, chk_7⟩
  have F_8 := fun_mk (st := s_8) l_8 c_8 k_8
  have J_8 : FnJ K tb (fun f => ([g_0, g_1, g_2, g_3, g_4, g_5, g_6, g_7, g_8, g_9, g_10, g_11, g_12, g_13, g_14, g_15, g_16, g_17, g_18, g_19, g_20, g_21, g_22, g_23, g_24, g_25, g_26, g_27, g_28, g_29, g_30, g_31, g_32, g_33, fa] : List Addr).getD f 0) 8 f_8 _ ["thing", "path"] := ⟨_, _, s_8, n_8, F_8, fsc_by scp_8, F_8.binds (ps := ["thing", "path"]) (fun _ _ _ _ _ _ us hl => match us, hl with | [_, _], _ => rfl), rfl, rfl, by decide, ⟨fun e => absurd e (by decide), trivial⟩, 200, chk_8⟩
  have F_9 := fun_mk (st := s_9) l_9 c_9 k_9
  have J_9 : FnJ K tb (fun f => ([g_0, g_1, g_2, g_3, g_4, g_5, g_6, g_7, g_8, g_9, g_10, g_11, g_12, g_13, g_14, g_15, g_16, g_17, g_18, g_19, g_20, g_21, g_22, g_23, g_24, g_25, g_26, g_27, g_28, g_29, g_30, g_31, g_32, g_33, fa] : List Addr).getD f 0) 9 f_9 _ ["thing", "path"] := ⟨_, _, s_9, n_9, F_9, fsc_by scp_9, F_9.binds (ps := ["thing", "path"]) (fun _ _ _ _ _ _ us hl => match us, hl with | [_, _], _ => rfl), rfl, rfl, by decide, ⟨fun e => absurd e (by decide), trivial⟩, 200, chk_9⟩
  have F_10 := fun_mk (st := s_10) l_10 c_10 k_10
  have J_10 : FnJ K tb (fun f => ([g_0, g_1, g_2, g_3, g_4, g_5, g_6, g_7, g_8, g_9, g_10, g_11, g_12, g_13, g_14, g_15, g_16, g_17, g_18, g_19, g_20, g_21, g_22, g_23, g_24, g_25, g_26, g_27, g_28, g_29, g_30, g_31, g_32, g_33, fa] : List Addr).getD f 0) 10 f_10 _ ["thing", "path"] := ⟨_, _, s_10, n_10, F_10, fsc_by scp_10, F_10.binds (ps := ["thing", "path"]) (fun _ _ _ _ _ _ us hl => match us, hl with | [_, _], _ => rfl), rfl, rfl, by decide, ⟨fun e => absurd e (by decide), trivial⟩, 200, chk_10⟩
  have F_11 := fun_mk (st := s_11) l_11 c_11 k_11
  have J_11 : FnJ K tb (fun f => ([g_0, g_1, g_2, g_3, g_4, g_5, g_6, g_7, g_8, g_9, g_10, g_11, g_12, g_13, g_14, g_15, g_16, g_17, g_18, g_19, g_20, g_21, g_22, g_23, g_24, g_25, g_26, g_27, g_28, g_29, g_30, g_31, g_32, g_33, fa] : List Addr).getD f 0) 11 f_11 _ ["thing", "path"] := ⟨_, _, s_11, n_11, F_11, fsc_by scp_11, F_11.binds (ps := ["thing", "path"]) (fun _ _ _ _ _ _ us hl => match us, hl with | [_, _], _ => rfl), rfl, rfl, by decide, ⟨fun e => absurd e (by decide), trivial⟩, 200, chk_11⟩
  have F_12 := fun_mk (st := s_12) l_12 c_12 k_12
  have J_12 : FnJ K tb (fun f => ([g_0, g_1, g_2, g_3, g_4, g_5, g_6, g_7, g_8, g_9, g_10, g_11, g_12, g_13, g_14, g_15, g_16, g_17, g_18, g_19, g_20, g_21, g_22, g_23, g_24, g_25, g_26, g_27, g_28, g_29, g_30, g_31, g_32, g_33, fa] : List Addr).getD f 0) 12 f_12 _ ["code", "path"] := ⟨_, _, s_12, n_12, F_12, fsc_by scp_12, F_12.binds (ps := ["code", "path"]) (fun _ _ _ _ _ _ us hl => match us, hl with | [_, _], _ => rfl), rfl, rfl, by decide, ⟨fun e => absurd e (by decide), trivial⟩, 200, chk_12⟩
  have F_13 := fun_mk (st := s_13) l_13 c_13 k_13
  have J_13 : FnJ K tb (fun f => ([g_0, g_1, g_2, g_3, g_4, g_5, g_6, g_7, g_8, g_9, g_10, g_11, g_12, g_13, g_14, g_15, g_16, g_17, g_18, g_19, g_20, g_21, g_22, g_23, g_24, g_25, g_26, g_27, g_28, g_29, g_30, g_31, g_32, g_33, fa] : List Addr).getD f 0) 13 f_13 _ ["thing"] := ⟨_, _, s_13, n_13, F_13, fsc_by scp_13, F_13.binds (ps := ["thing"]) (fun _ _ _ _ _ _ us hl => match us, hl with | [_], _ => rfl), rfl, rfl, by decide, ⟨fun e => absurd e (by decide), trivial⟩, 200, chk_13⟩
  have F_14 := fun_mk (st := s_14) l_14 c_14 k_14
  have J_14 : FnJ K tb (fun f => ([g_0, g_1, g_2, g_3, g_4, g_5, g_6, g_7, g_8, g_9, g_10, g_11, g_12, g_13, g_14, g_15, g_16, g_17, g_18, g_19, g_20, g_21, g_22, g_23, g_24, g_25, g_26, g_27, g_28, g_29, g_30, g_31, g_32, g_33, fa] : List Addr).getD f 0) 14 f_14 _ ["thing"] := ⟨_, _, s_14, n_14, F_14, fsc_by scp_14, F_14.binds (ps := ["thing"]) (fun _ _ _ _ _ _ us hl => match us, hl with | [_], _ => rfl), rfl, rfl, by decide, ⟨fun _ => kb_mk (by decide) fun s ws hl => match ws, hl with | [_], _ => .of_eq rfl, trivial⟩, 200, chk_14⟩
  have F_15 := fun_mk (st := s_15) l_15 c_15 k_15
  have J_15 : FnJ K tb (fun f => ([g_0, g_1, g_2, g_3, g_4, g_5, g_6, g_7, g_8, g_9, g_10, g_11, g_12, g_13, g_14, g_15, g_16, g_17, g_18, g_19, g_20, g_21, g_22, g_23, g_24, g_25, g_26, g_27, g_28, g_29, g_30, g_31, g_32, g_33, fa] : List Addr).getD f 0) 15 f_15 _ ["code"] := ⟨_, _, s_15, n_15, F_15, fsc_by scp_15, F_15.binds (ps := ["code"]) (fun _ _ _ _ _ _ us hl => match us, hl with | [_], _ => rfl), rfl, rfl, by decide, ⟨fun e => absurd e (by decide), trivial⟩, 200, chk_15⟩
  have F_16 := fun_mk (st := s_16) l_16 c_16 k_16
  have J_16 : FnJ K tb (fun f => ([g_0, g_1, g_2, g_3, g_4, g_5, g_6, g_7, g_8, g_9, g_10, g_11, g_12, g_13, g_14, g_15, g_16, g_17, g_18, g_19, g_20, g_21, g_22, g_23, g_24, g_25, g_26, g_27, g_28, g_29, g_30, g_31, g_32, g_33, fa] : List Addr).getD f 0) 16 f_16 _ ["code"] := ⟨_, _, s_16, n_16, F_16, fsc_by scp_16, F_16.binds (ps := ["code"]) (fun _ _ _ _ _ _ us hl => match us, hl with | [_], _ => rfl), rfl, rfl, by decide, ⟨fun e => absurd e (by decide), trivial⟩, 200, chk_16⟩
  have F_17 := fun_mk (st := s_17) l_17 c_17 k_17
  have J_17 : FnJ K tb (fun f => ([g_0, g_1, g_2, g_3, g_4, g_5, g_6, g_7, g_8, g_9, g_10, g_11, g_12, g_13, g_14, g_15, g_16, g_17, g_18, g_19, g_20, g_21, g_22, g_23, g_24, g_25, g_26, g_27, g_28, g_29, g_30, g_31, g_32, g_33, fa] : List Addr).getD f 0) 17 f_17 _ ["script"] := ⟨_, _, s_17, n_17, F_17, fsc_by scp_17, F_17.binds (ps := ["script"]) (fun _ _ _ _ _ _ us hl => match us, hl with | [_], _ => rfl), rfl, rfl, by decide, ⟨fun e => absurd e (by decide), trivial⟩, 200, chk_17⟩
  have F_18 := fun_mk (st := s_18) l_18 c_18 k_18
  have J_18 : FnJ K tb (fun f => ([g_0, g_1, g_2, g_3, g_4, g_5, g_6, g_7, g_8, g_9, g_10, g_11, g_12, g_13, g_14, g_15, g_16, g_17, g_18, g_19, g_20, g_21, g_22, g_23, g_24, g_25, g_26, g_27, g_28, g_29, g_30, g_31, g_32, g_33, fa] : List Addr).getD f 0) 18 f_18 _ ["tape", "many"] := ⟨_, _, s_18, n_18, F_18, fsc_by scp_18, F_18.binds (ps := ["tape", "many"]) (fun _ _ _ _ _ _ us hl => match us, hl with | [_, _], _ => rfl), rfl, rfl, by decide, ⟨fun e => absurd e (by decide), trivial⟩, 200, chk_18⟩
  have F_19 := fun_mk (st := s_19) l_19 c_19 k_19
  have J_19 : FnJ K tb (fun f => ([g_0, g_1, g_2, g_3, g_4, g_5, g_6, g_7, g_8, g_9, g_10, g_11, g_12, g_13, g_14, g_15, g_16, g_17, g_18, g_19, g_20, g_21, g_22, g_23, g_24, g_25, g_26, g_27, g_28, g_29, g_30, g_31, g_32, g_33, fa] : List Addr).getD f 0) 19 f_19 _ ["tape", "things"] := ⟨_, _, s_19, n_19, F_19, fsc_by scp_19, F_19.binds (ps := ["tape", "things"]) (fun _ _ _ _ _ _ us hl => match us, hl with | [_, _], _ => rfl), rfl, rfl, by decide, ⟨fun e => absurd e (by decide), trivial⟩, 200, chk_19⟩
  have F_20 := fun_mk (st := s_20) l_20 c_20 k_20
  have J_20 : FnJ K tb (fun f => ([g_0, g_1, g_2, g_3, g_4, g_5, g_6, g_7, g_8, g_9, g_10, g_11, g_12, g_13, g_14, g_15, g_16, g_17, g_18, g_19, g_20, g_21, g_22, g_23, g_24, g_25, g_26, g_27, g_28, g_29, g_30, g_31, g_32, g_33, fa] : List Addr).getD f 0) 20 f_20 _ ["tape", "things"] := ⟨_, _, s_20, n_20, F_20, fsc_by scp_20, F_20.binds (ps := ["tape", "things"]) (fun _ _ _ _ _ _ us hl => match us, hl with | [_, _], _ => rfl), rfl, rfl, by decide, ⟨fun e => absurd e (by decide), trivial⟩, 200, chk_20⟩
  have F_21 := fun_mk (st := s_21) l_21 c_21 k_21
  have J_21 : FnJ K tb (fun f => ([g_0, g_1, g_2, g_3, g_4, g_5, g_6, g_7, g_8, g_9, g_10, g_11, g_12, g_13, g_14, g_15, g_16, g_17, g_18, g_19, g_20, g_21, g_22, g_23, g_24, g_25, g_26, g_27, g_28, g_29, g_30, g_31, g_32, g_33, fa] : List Addr).getD f 0) 21 f_21 _ ["told", "due"] := ⟨_, _, s_21, n_21, F_21, fsc_by scp_21, F_21.binds (ps := ["told", "due"]) (fun _ _ _ _ _ _ us hl => match us, hl with | [_, _], _ => rfl), rfl, rfl, by decide, ⟨fun e => absurd e (by decide), trivial⟩, 200, chk_21⟩
  have F_22 := fun_mk (st := s_22) l_22 c_22 k_22
  have J_22 : FnJ K tb (fun f => ([g_0, g_1, g_2, g_3, g_4, g_5, g_6, g_7, g_8, g_9, g_10, g_11, g_12, g_13, g_14, g_15, g_16, g_17, g_18, g_19, g_20, g_21, g_22, g_23, g_24, g_25, g_26, g_27, g_28, g_29, g_30, g_31, g_32, g_33, fa] : List Addr).getD f 0) 22 f_22 _ ["thing", "low", "high"] := ⟨_, _, s_22, n_22, F_22, fsc_by scp_22, F_22.binds (ps := ["thing", "low", "high"]) (fun _ _ _ _ _ _ us hl => match us, hl with | [_, _, _], _ => rfl), rfl, rfl, by decide, ⟨fun e => absurd e (by decide), trivial⟩, 200, chk_22⟩
  have F_23 := fun_mk (st := s_23) l_23 c_23 k_23
  have J_23 : FnJ K tb (fun f => ([g_0, g_1, g_2, g_3, g_4, g_5, g_6, g_7, g_8, g_9, g_10, g_11, g_12, g_13, g_14, g_15, g_16, g_17, g_18, g_19, g_20, g_21, g_22, g_23, g_24, g_25, g_26, g_27, g_28, g_29, g_30, g_31, g_32, g_33, fa] : List Addr).getD f 0) 23 f_23 _ ["one"] := ⟨_, _, s_23, n_23, F_23, fsc_by scp_23, F_23.binds (ps := ["one"]) (fun _ _ _ _ _ _ us hl => match us, hl with | [_], _ => rfl), rfl, rfl, by decide, ⟨fun e => absurd e (by decide), trivial⟩, 200, chk_23⟩
  have F_24 := fun_mk (st := s_24) l_24 c_24 k_24
  have J_24 : FnJ K tb (fun f => ([g_0, g_1, g_2, g_3, g_4, g_5, g_6, g_7, g_8, g_9, g_10, g_11, g_12, g_13, g_14, g_15, g_16, g_17, g_18, g_19, g_20, g_21, g_22, g_23, g_24, g_25, g_26, g_27, g_28, g_29, g_30, g_31, g_32, g_33, fa] : List Addr).getD f 0) 24 f_24 _ ["thing"] := ⟨_, _, s_24, n_24, F_24, fsc_by scp_24, F_24.binds (ps := ["thing"]) (fun _ _ _ _ _ _ us hl => match us, hl with | [_], _ => rfl), rfl, rfl, by decide, ⟨fun e => absurd e (by decide), trivial⟩, 200, chk_24⟩
  have F_25 := fun_mk (st := s_25) l_25 c_25 k_25
  have J_25 : FnJ K tb (fun f => ([g_0, g_1, g_2, g_3, g_4, g_5, g_6, g_7, g_8, g_9, g_10, g_11, g_12, g_13, g_14, g_15, g_16, g_17, g_18, g_19, g_20, g_21, g_22, g_23, g_24, g_25, g_26, g_27, g_28, g_29, g_30, g_31, g_32, g_33, fa] : List Addr).getD f 0) 25 f_25 _ ["tape"] := ⟨_, _, s_25, n_25, F_25, fsc_by scp_25, F_25.binds (ps := ["tape"]) (fun _ _ _ _ _ _ us hl => match us, hl with | [_], _ => rfl), rfl, rfl, by decide, ⟨fun e => absurd e (by decide), trivial⟩, 200, chk_25⟩
  have F_26 := fun_mk (st := s_26) l_26 c_26 k_26
  have J_26 : FnJ K tb (fun f => ([g_0, g_1, g_2, g_3, g_4, g_5, g_6, g_7, g_8, g_9, g_10, g_11, g_12, g_13, g_14, g_15, g_16, g_17, g_18, g_19, g_20, g_21, g_22, g_23, g_24, g_25, g_26, g_27, g_28, g_29, g_30, g_31, g_32, g_33, fa] : List Addr).getD f 0) 26 f_26 _ ["tape"] := ⟨_, _, s_26, n_26, F_26, fsc_by scp_26, F_26.binds (ps := ["tape"]) (fun _ _ _ _ _ _ us hl => match us, hl with | [_], _ => rfl), rfl, rfl, by decide, ⟨fun e => absurd e (by decide), trivial⟩, 200, chk_26⟩
  have F_27 := fun_mk (st := s_27) l_27 c_27 k_27
  have J_27 : FnJ K tb (fun f => ([g_0, g_1, g_2, g_3, g_4, g_5, g_6, g_7, g_8, g_9, g_10, g_11, g_12, g_13, g_14, g_15, g_16, g_17, g_18, g_19, g_20, g_21, g_22, g_23, g_24, g_25, g_26, g_27, g_28, g_29, g_30, g_31, g_32, g_33, fa] : List Addr).getD f 0) 27 f_27 _ ["tape", "many"] := ⟨_, _, s_27, n_27, F_27, fsc_by scp_27, F_27.binds (ps := ["tape", "many"]) (fun _ _ _ _ _ _ us hl => match us, hl with | [_, _], _ => rfl), rfl, rfl, by decide, ⟨fun e => absurd e (by decide), trivial⟩, 200, chk_27⟩
  have F_28 := fun_mk (st := s_28) l_28 c_28 k_28
  have J_28 : FnJ K tb (fun f => ([g_0, g_1, g_2, g_3, g_4, g_5, g_6, g_7, g_8, g_9, g_10, g_11, g_12, g_13, g_14, g_15, g_16, g_17, g_18, g_19, g_20, g_21, g_22, g_23, g_24, g_25, g_26, g_27, g_28, g_29, g_30, g_31, g_32, g_33, fa] : List Addr).getD f 0) 28 f_28 _ ["thing"] := ⟨_, _, s_28, n_28, F_28, fsc_by scp_28, F_28.binds (ps := ["thing"]) (fun _ _ _ _ _ _ us hl => match us, hl with | [_], _ => rfl), rfl, rfl, by decide, ⟨fun e => absurd e (by decide), trivial⟩, 200, chk_28⟩
  have F_29 := fun_mk (st := s_29) l_29 c_29 k_29
  have J_29 : FnJ K tb (fun f => ([g_0, g_1, g_2, g_3, g_4, g_5, g_6, g_7, g_8, g_9, g_10, g_11, g_12, g_13, g_14, g_15, g_16, g_17, g_18, g_19, g_20, g_21, g_22, g_23, g_24, g_25, g_26, g_27, g_28, g_29, g_30, g_31, g_32, g_33, fa] : List Addr).getD f 0) 29 f_29 _ ["tape"] := ⟨_, _, s_29, n_29, F_29, fsc_by scp_29, F_29.binds (ps := ["tape"]) (fun _ _ _ _ _ _ us hl => match us, hl with | [_], _ => rfl), rfl, rfl, by decide, ⟨fun e => absurd e (by decide), trivial⟩, 200, chk_29⟩
  have F_30 := fun_mk (st := s_30) l_30 c_30 k_30
  have J_30 : FnJ K tb (fun f => ([g_0, g_1, g_2, g_3, g_4, g_5, g_6, g_7, g_8, g_9, g_10, g_11, g_12, g_13, g_14, g_15, g_16, g_17, g_18, g_19, g_20, g_21, g_22, g_23, g_24, g_25, g_26, g_27, g_28, g_29, g_30, g_31, g_32, g_33, fa] : List Addr).getD f 0) 30 f_30 _ ["tape", "code"] := ⟨_, _, s_30, n_30, F_30, fsc_by scp_30, F_30.binds (ps := ["tape", "code"]) (fun _ _ _ _ _ _ us hl => match us, hl with | [_, _], _ => rfl), rfl, rfl, by decide, ⟨fun e => absurd e (by decide), trivial⟩, 200, chk_30⟩
  have F_31 := fun_mk (st := s_31) l_31 c_31 k_31
  have J_31 : FnJ K tb (fun f => ([g_0, g_1, g_2, g_3, g_4, g_5, g_6, g_7, g_8, g_9, g_10, g_11, g_12, g_13, g_14, g_15, g_16, g_17, g_18, g_19, g_20, g_21, g_22, g_23, g_24, g_25, g_26, g_27, g_28, g_29, g_30, g_31, g_32, g_33, fa] : List Addr).getD f 0) 31 f_31 _ ["thing"] := ⟨_, _, s_31, n_31, F_31, fsc_by scp_31, F_31.binds (ps := ["thing"]) (fun _ _ _ _ _ _ us hl => match us, hl with | [_], _ => rfl), rfl, rfl, by decide, ⟨fun e => absurd e (by decide), trivial⟩, 200, chk_31⟩
  have F_32 := fun_mk (st := s_32) l_32 c_32 k_32
  have J_32 : FnJ K tb (fun f => ([g_0, g_1, g_2, g_3, g_4, g_5, g_6, g_7, g_8, g_9, g_10, g_11, g_12, g_13, g_14, g_15, g_16, g_17, g_18, g_19, g_20, g_21, g_22, g_23, g_24, g_25, g_26, g_27, g_28, g_29, g_30, g_31, g_32, g_33, fa] : List Addr).getD f 0) 32 f_32 _ ["deep"] := ⟨_, _, s_32, n_32, F_32, fsc_by scp_32, F_32.binds (ps := ["deep"]) (fun _ _ _ _ _ _ us hl => match us, hl with | [_], _ => rfl), rfl, rfl, by decide, ⟨fun e => absurd e (by decide), trivial⟩, 200, chk_32⟩
  have F_33 := fun_mk (st := s_33) l_33 c_33 k_33
  have J_33 : FnJ K tb (fun f => ([g_0, g_1, g_2, g_3, g_4, g_5, g_6, g_7, g_8, g_9, g_10, g_11, g_12, g_13, g_14, g_15, g_16, g_17, g_18, g_19, g_20, g_21, g_22, g_23, g_24, g_25, g_26, g_27, g_28, g_29, g_30, g_31, g_32, g_33, fa] : List Addr).getD f 0) 33 f_33 _ ["tape"] := ⟨_, _, s_33, n_33, F_33, fsc_by scp_33, F_33.binds (ps := ["tape"]) (fun _ _ _ _ _ _ us hl => match us, hl with | [_], _ => rfl), rfl, rfl, by decide, ⟨fun e => absurd e (by decide), trivial⟩, 200, chk_33⟩
  have F_34 := fun_mk (st := s_34) l_34 c_34 k_34
  have J_34 : FnJ K tb (fun f => ([g_0, g_1, g_2, g_3, g_4, g_5, g_6, g_7, g_8, g_9, g_10, g_11, g_12, g_13, g_14, g_15, g_16, g_17, g_18, g_19, g_20, g_21, g_22, g_23, g_24, g_25, g_26, g_27, g_28, g_29, g_30, g_31, g_32, g_33, fa] : List Addr).getD f 0) 34 f_34 _ ["script"] := ⟨_, _, s_34, n_34, F_34, fsc_by scp_34, F_34.binds (ps := ["script"]) (fun _ _ _ _ _ _ us hl => match us, hl with | [_], _ => rfl), rfl, rfl, by decide, ⟨fun e => absurd e (by decide), trivial⟩, 200, chk_34⟩
  have A : AllI (fun f t => ∃ fd ps, FnJ K tb (fun f => ([g_0, g_1, g_2, g_3, g_4, g_5, g_6, g_7, g_8, g_9, g_10, g_11, g_12, g_13, g_14, g_15, g_16, g_17, g_18, g_19, g_20, g_21, g_22, g_23, g_24, g_25, g_26, g_27, g_28, g_29, g_30, g_31, g_32, g_33, fa] : List Addr).getD f 0) f t fd ps) 0 pg.fns := ⟨⟨_, _, J_0⟩, ⟨_, _, J_1⟩, ⟨_, _, J_2⟩, ⟨_, _, J_3⟩, ⟨_, _, J_4⟩, ⟨_, _, J_5⟩, ⟨_, _, J_6⟩, ⟨_, _, J_7⟩, ⟨_, _, J_8⟩, ⟨_, _, J_9⟩, ⟨_, _, J_10⟩, ⟨_, _, J_11⟩, ⟨_, _, J_12⟩, ⟨_, _, J_13⟩, ⟨_, _, J_14⟩, ⟨_, _, J_15⟩, ⟨_, _, J_16⟩, ⟨_, _, J_17⟩, ⟨_, _, J_18⟩, ⟨_, _, J_19⟩, ⟨_, _, J_20⟩, ⟨_, _, J_21⟩, ⟨_, _, J_22⟩, ⟨_, _, J_23⟩, ⟨_, _, J_24⟩, ⟨_, _, J_25⟩, ⟨_, _, J_26⟩, ⟨_, _, J_27⟩, ⟨_, _, J_28⟩, ⟨_, _, J_29⟩, ⟨_, _, J_30⟩, ⟨_, _, J_31⟩, ⟨_, _, J_32⟩, ⟨_, _, J_33⟩, ⟨_, _, J_34⟩, trivial⟩
  have I : ∀ f t, pg.fns[f]? = some t → ∃ fd ps, FnJ K tb (fun f => ([g_0, g_1, g_2, g_3, g_4, g_5, g_6, g_7, g_8, g_9, g_10, g_11, g_12, g_13, g_14, g_15, g_16, g_17, g_18, g_19, g_20, g_21, g_22, g_23, g_24, g_25, g_26, g_27, g_28, g_29, g_30, g_31, g_32, g_33, fa] : List Addr).getD f 0) f t fd ps := fun f t hf => by
    have z := AllI.get A hf
    rw [Nat.zero_add] at z
    exact z
  exact ⟨_, fun s v => .of_eq rfl, fun base _ _ => fn_law (n := 63) (d := 80) (f := 34) tab I rfl J_34 rfl hplain⟩
end LK
open PySem PySem.W PyProof.Rows
set_option maxRecDepth 100000 in
set_option maxHeartbeats 0 in
theorem PySem.Challenge.cw_turnedtogether_k23_code_checked_holds : PySem.Challenge.rw_turnedtogether_k23_code_checked.Holds := by
  w_on; o_law; k_head; (case hw => w_witness2)
  k_fill
  refine L2.walk_of (l := PySem.Challenge.rw_turnedtogether_k23_code_checked) (n := 63) (k := 82) (x := "script") (CX := fun w => L2.CX PySem.Challenge.rw_turnedtogether_k23_code_checked.prog w) (sp := fun w => LX.spLaw 63 _) rfl (by decide) rfl ⟨rfl, by decide, by decide⟩ (fun w h Y => PySem.W.kIn_of Y) ?F (fun _ _ a ns hl hO hS => LX.sp_in hl hO hS) (fun _ _ _ _ _ z => by obtain ⟨_, _, _, _, _, _, _, _, _, _, _, _, q⟩ := z; exact q.elim)
  case F =>
    intro w mg fa h KX G hmg
    refine' LK.all_mk LK.law_plain KX G hmg ?a_0 ?l_0 ?c_0 ?k_0 ?a_1 ?l_1 ?c_1 ?k_1 ?a_2 ?l_2 ?c_2 ?k_2 ?a_3 ?l_3 ?c_3 ?k_3 ?a_4 ?l_4 ?c_4 ?k_4 ?a_5 ?l_5 ?c_5 ?k_5 ?a_6 ?l_6 ?c_6 ?k_6 ?a_7 ?l_7 ?c_7 ?k_7 ?a_8 ?l_8 ?c_8 ?k_8 ?a_9 ?l_9 ?c_9 ?k_9 ?a_10 ?l_10 ?c_10 ?k_10 ?a_11 ?l_11 ?c_11 ?k_11 ?a_12 ?l_12 ?c_12 ?k_12 ?a_13 ?l_13 ?c_13 ?k_13 ?a_14 ?l_14 ?c_14 ?k_14 ?a_15 ?l_15 ?c_15 ?k_15 ?a_16 ?l_16 ?c_16 ?k_16 ?a_17 ?l_17 ?c_17 ?k_17 ?a_18 ?l_18 ?c_18 ?k_18 ?a_19 ?l_19 ?c_19 ?k_19 ?a_20 ?l_20 ?c_20 ?k_20 ?a_21 ?l_21 ?c_21 ?k_21 ?a_22 ?l_22 ?c_22 ?k_22 ?a_23 ?l_23 ?c_23 ?k_23 ?a_24 ?l_24 ?c_24 ?k_24 ?a_25 ?l_25 ?c_25 ?k_25 ?a_26 ?l_26 ?c_26 ?k_26 ?a_27 ?l_27 ?c_27 ?k_27 ?a_28 ?l_28 ?c_28 ?k_28 ?a_29 ?l_29 ?c_29 ?k_29 ?a_30 ?l_30 ?c_30 ?k_30 ?a_31 ?l_31 ?c_31 ?k_31 ?a_32 ?l_32 ?c_32 ?k_32 ?a_33 ?l_33 ?c_33 ?k_33 ?a_34 ?l_34 ?c_34 ?k_34 ?xa_0 ?xi_0 ?xt_0 ?xb_0 ?xa_1 ?xi_1 ?xt_1 ?xb_1 ?xa_2 ?xi_2 ?xt_2 ?xb_2 ?xa_3 ?xi_3 ?xt_3 ?xb_3 ?xa_4 ?xi_4 ?xt_4 ?xb_4 ?sp ?tk ?u_0_0 ?u_0_1 ?u_0_2 ?u_0_3 ?u_0_4 ?xl_0 ?sa_0 ?ga_0 ?gg_0 ?cc_0 ?mr_0 ?hd_0 ?kc_0 ?nf_0_path ?nf_0_word ?ia_0 ?it_0 ?l_i0 ?c_i0 ?k_i0 ?b_0 ?b_1 ?b_2 ?b_3 ?b_4 ?b_5 ?b_6 ?b_7 ?b_8 ?b_9 ?b_10 ?b_11 ?q_0 ?q_1 ?q_2 ?q_3 ?q_4 ?td_0 ?tl_0 ?ts_0
    (case a_0 => k_is); (case l_0 => k_is); (case c_0 => k_is); (case k_0 => k_is); (case a_1 => k_is); (case l_1 => k_is)
    (case c_1 => k_is); (case k_1 => k_is); (case a_2 => k_is); (case l_2 => k_is); (case c_2 => k_is); (case k_2 => k_is)
    (case a_3 => k_is); (case l_3 => k_is); (case c_3 => k_is); (case k_3 => k_is); (case a_4 => k_is); (case l_4 => k_is)
    (case c_4 => k_is); (case k_4 => k_is); (case a_5 => k_is); (case l_5 => k_is); (case c_5 => k_is); (case k_5 => k_is)
    (case a_6 => k_is); (case l_6 => k_is); (case c_6 => k_is); (case k_6 => k_is); (case a_7 => k_is); (case l_7 => k_is)
    (case c_7 => k_is); (case k_7 => k_is); (case a_8 => k_is); (case l_8 => k_is); (case c_8 => k_is); (case k_8 => k_is)
    (case a_9 => k_is); (case l_9 => k_is); (case c_9 => k_is); (case k_9 => k_is); (case a_10 => k_is); (case l_10 => k_is)
    (case c_10 => k_is); (case k_10 => k_is); (case a_11 => k_is); (case l_11 => k_is); (case c_11 => k_is); (case k_11 => k_is)
    (case a_12 => k_is); (case l_12 => k_is); (case c_12 => k_is); (case k_12 => k_is); (case a_13 => k_is); (case l_13 => k_is)
    (case c_13 => k_is); (case k_13 => k_is); (case a_14 => k_is); (case l_14 => k_is); (case c_14 => k_is); (case k_14 => k_is)
    (case a_15 => k_is); (case l_15 => k_is); (case c_15 => k_is); (case k_15 => k_is); (case a_16 => k_is); (case l_16 => k_is)
    (case c_16 => k_is); (case k_16 => k_is); (case a_17 => k_is); (case l_17 => k_is); (case c_17 => k_is); (case k_17 => k_is)
    (case a_18 => k_is); (case l_18 => k_is); (case c_18 => k_is); (case k_18 => k_is); (case a_19 => k_is); (case l_19 => k_is)
    (case c_19 => k_is); (case k_19 => k_is); (case a_20 => k_is); (case l_20 => k_is); (case c_20 => k_is); (case k_20 => k_is)
    (case a_21 => k_is); (case l_21 => k_is); (case c_21 => k_is); (case k_21 => k_is); (case a_22 => k_is); (case l_22 => k_is)
    (case c_22 => k_is); (case k_22 => k_is); (case a_23 => k_is); (case l_23 => k_is); (case c_23 => k_is); (case k_23 => k_is)
    (case a_24 => k_is); (case l_24 => k_is); (case c_24 => k_is); (case k_24 => k_is); (case a_25 => k_is); (case l_25 => k_is)
    (case c_25 => k_is); (case k_25 => k_is); (case a_26 => k_is); (case l_26 => k_is); (case c_26 => k_is); (case k_26 => k_is)
    (case a_27 => k_is); (case l_27 => k_is); (case c_27 => k_is); (case k_27 => k_is); (case a_28 => k_is); (case l_28 => k_is)
    (case c_28 => k_is); (case k_28 => k_is); (case a_29 => k_is); (case l_29 => k_is); (case c_29 => k_is); (case k_29 => k_is)
    (case a_30 => k_is); (case l_30 => k_is); (case c_30 => k_is); (case k_30 => k_is); (case a_31 => k_is); (case l_31 => k_is)
    (case c_31 => k_is); (case k_31 => k_is); (case a_32 => k_is); (case l_32 => k_is); (case c_32 => k_is); (case k_32 => k_is)
    (case a_33 => k_is); (case l_33 => k_is); (case c_33 => k_is); (case k_33 => k_is); (case a_34 => k_is); (case l_34 => k_is)
    (case c_34 => k_is); (case k_34 => k_is); (case xa_0 => k_is); (case xi_0 => k_is); (case xt_0 => k_is); (case xb_0 => k_is)
    (case xa_1 => k_is); (case xi_1 => k_is); (case xt_1 => k_is); (case xb_1 => k_is); (case xa_2 => k_is); (case xi_2 => k_is)
    (case xt_2 => k_is); (case xb_2 => k_is); (case xa_3 => k_is); (case xi_3 => k_is); (case xt_3 => k_is); (case xb_3 => k_is)
    (case xa_4 => k_is); (case xi_4 => k_is); (case xt_4 => k_is); (case xb_4 => k_is); (case sp => k_is); (case tk => k_is)
    (case u_0_0 => k_is); (case u_0_1 => k_is); (case u_0_2 => k_is); (case u_0_3 => k_is); (case u_0_4 => k_is); (case xl_0 => k_is)
    (case sa_0 => k_is); (case ga_0 => k_is); (case gg_0 => k_is); (case cc_0 => k_is); (case mr_0 => k_is); (case hd_0 => k_is)
    (case kc_0 => k_is); (case nf_0_path => k_is); (case nf_0_word => k_is); (case ia_0 => k_is); (case it_0 => k_is); (case l_i0 => k_is)
    (case c_i0 => k_is); (case k_i0 => k_is); (case b_0 => k_is); (case b_1 => k_is); (case b_2 => k_is); (case b_3 => k_is)
    (case b_4 => k_is); (case b_5 => k_is); (case b_6 => k_is); (case b_7 => k_is); (case b_8 => k_is); (case b_9 => k_is)
    (case b_10 => k_is); (case b_11 => k_is); (case q_0 => k_is); (case q_1 => k_is); (case q_2 => k_is); (case q_3 => k_is)
    (case q_4 => k_is); (case td_0 => k_is); (case tl_0 => k_is); (case ts_0 => decide)
