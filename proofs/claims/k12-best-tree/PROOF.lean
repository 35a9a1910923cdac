import PyProof.Rows.All
import HandS.ForMost
import HandS.ForExc
import HandS.TupMul
import HandS.TupAny
import HandS.IsInst
import HandS.Conv
import HandS.Style
import HandS.More
import HandS.Iter
import HandS.Zip
import HandS.Comp
import HandS.ExcOwn
import HandS.WordsExc
import KE.KDictItemsList
import HandS.ListItems
import HandS.Deep
import HandS.SortInts
import KE.KRevSl
import HandS.ExcInit
import HandS.ExcField
import HandS.ExcIs
import HandS.Nested
import KE.KExcSuper
import KE.KSuper
import KE.KFromBytes
import HandS.SortRule
import HandS.NoneIn
import HandS.Strs
import HandS.SetFor
import HandS.TupSets
import PySem.Challenge.RW_keptasatree_k12_best_tree
set_option Elab.async false
set_option linter.all false
set_option maxRecDepth 100000
set_option maxHeartbeats 4000000
/-! AB0: a tuple repeated, any times -/
namespace L2
open PySem PySem.Spec PyProof.Rows
theorem ab_mul_same (l : Addr) (items : Array Value) (n : Nat) (dd : Option Addr) (sl : Array (Option Value)) (x : Int) (u : Tok) (c0 : (decide (x < -(2 ^ 63)) || decide (x ≥ 2 ^ 63)) = false) (c1 : (items.isEmpty || x == 1) = true) :
    Meets (Builtin.«tuple.__mul__» ⟨[.ref l, .int x u], []⟩) (fun _ R s => s.heap.get? l = some { cls := .type "tuple", dict := dd, data := .seq items n, slots := sl } ∧
      R (.ok (.ret (Value.ref l))) s) :=
  .of_wp fun prog w A R s h => by
    obtain ⟨hp, g, d, tk, os⟩ := s
    obtain ⟨hl, h⟩ := h
    have f1 := AutoSeq1.idx_int
    wp_walk using wpAny_loadPart' hl
    repeat (first
      | (refine wpAny_ite_false (decide_eq_false (by rw [c0]; exact Bool.false_ne_true)) ?_; wp_walk using wpAny_loadPart' hl)
      | (refine wpAny_ite_true (decide_eq_true c1) ?_; wp_walk using wpAny_loadPart' hl))
    all_goals exact ⟨_, rfl, h⟩
theorem ab_mul_none (l : Addr) (items : Array Value) (n : Nat) (dd : Option Addr) (sl : Array (Option Value)) (x : Int) (u : Tok) (c0 : (decide (x < -(2 ^ 63)) || decide (x ≥ 2 ^ 63)) = false) (c1 : (items.isEmpty || x == 1) = false) (c2 : (decide (x ≤ 0) || items.isEmpty) = true) :
    Meets (Builtin.«tuple.__mul__» ⟨[.ref l, .int x u], []⟩) (fun _ R s => s.heap.get? l = some { cls := .type "tuple", dict := dd, data := .seq items n, slots := sl } ∧
      R (.ok (.ret (Value.ref s.heap.objs.size))) { s with heap := s.heap.push { cls := Value.type "tuple", data := Data.seq #[] }, toks := s.toks }) :=
  .of_wp fun prog w A R s h => by
    obtain ⟨hp, g, d, tk, os⟩ := s
    obtain ⟨hl, h⟩ := h
    have f1 := AutoSeq1.idx_int
    wp_walk using wpAny_loadPart' hl
    repeat (first
      | (refine wpAny_ite_false (decide_eq_false (by rw [c0]; exact Bool.false_ne_true)) ?_; wp_walk using wpAny_loadPart' hl)
      | (refine wpAny_ite_false (decide_eq_false (by rw [c1]; exact Bool.false_ne_true)) ?_; wp_walk using wpAny_loadPart' hl)
      | (refine wpAny_ite_true (decide_eq_true c2) ?_; wp_walk using wpAny_loadPart' hl))
    all_goals exact ⟨_, rfl, h⟩
def rRepT1 (K : PySem.W.Frag) : R2 := fun x y H Q => ∃ l k xs, x = .ref l ∧ y = .int k ∧ SqT K H l xs ∧ -(2 ^ 63) ≤ k ∧ k < 2 ^ 63 ∧
  (((xs = [] ∨ k = 1) ∧ Q (.ref l) H) ∨ (xs ≠ [] ∧ k ≤ 0 ∧ ∀ p, H p = none → Q (.ref p) (upd H p (.tup []))))
theorem op_repT1 {X : Cx} : OpR X (binaryOp .Mult) (rRepT1 X.K) := by
  intro pins s σ H x y v u Q I rx ry h
  obtain ⟨l, k, xs, rfl, rfl, hT, k0, k1, q⟩ := h
  cases rx
  obtain ⟨t, rfl⟩ := ry
  obtain ⟨its, r, ⟨⟨cls, dd, data, sl⟩, ho, hc, n, hd⟩, hs⟩ := I.tuple hT
  simp only at hc hd
  subst hc hd
  have hle : its.length = xs.length := r.length.symm
  have c0 : (decide (k < -(2 ^ 63)) || decide (k ≥ 2 ^ 63)) = false := by
    rw [decide_eq_false (by omega), decide_eq_false (by omega)] <;> rfl
  rcases q with ⟨q0, q⟩ | ⟨q0, q1, q⟩
  · have c1 : (its.toArray.isEmpty || k == 1) = true := by
      rcases q0 with z | z
      · subst z
        have : its = [] := List.eq_nil_of_length_eq_zero (by rw [hle]; rfl)
        subst this; rfl
      · subst z; simp
    refine wpAny_binaryOp_repeat_ref (T := "tuple") (U := "int") (by decide) ⟨_, ho, rfl⟩ (fun s' => typeIs_int s' k t) noFill_tuple_mul F.fills_int_mul F.slot_int_rmul repeat_tuple F.slot_int_index.lookup
      (call_meets F.slot_int_rmul (typeIs_int s k t) F.entry_int_rmul (F.args_int_rmul_2 _ _) (int_rmul_tuple k t l its.toArray n dd sl)
        ⟨ho, rfl, ⟨_, ho, rfl⟩, call_meets F.slot_tuple_mul ⟨_, ho, rfl⟩ F.entry_tuple_mul (F.args_tuple_mul_2 _ _) (ab_mul_same l its.toArray n dd sl k t c0 c1) ⟨ho, ?_⟩⟩)
    exact ⟨.ref l, H, I, rfl, q⟩
  · have hn : its ≠ [] := fun e => q0 (by
      rw [e] at hle
      exact List.eq_nil_of_length_eq_zero hle.symm)
    have hi : its.toArray.isEmpty = false := by
      cases its with
      | nil => exact absurd rfl hn
      | cons a b => rfl
    have c1 : (its.toArray.isEmpty || k == 1) = false := by
      rw [hi, Bool.false_or]
      exact beq_eq_false_iff_ne.mpr (by omega)
    have c2 : (decide (k ≤ 0) || its.toArray.isEmpty) = true := by
      rw [decide_eq_true q1]; rfl
    refine wpAny_binaryOp_repeat_ref (T := "tuple") (U := "int") (by decide) ⟨_, ho, rfl⟩ (fun s' => typeIs_int s' k t) noFill_tuple_mul F.fills_int_mul F.slot_int_rmul repeat_tuple F.slot_int_index.lookup
      (call_meets F.slot_int_rmul (typeIs_int s k t) F.entry_int_rmul (F.args_int_rmul_2 _ _) (int_rmul_tuple k t l its.toArray n dd sl)
        ⟨ho, rfl, ⟨_, ho, rfl⟩, call_meets F.slot_tuple_mul ⟨_, ho, rfl⟩ F.entry_tuple_mul (F.args_tuple_mul_2 _ _) (ab_mul_none l its.toArray n dd sl k t c0 c1 c2) ⟨ho, ?_⟩⟩)
    refine ⟨.ref s.heap.objs.size, _, I.laid (t' := s.toks) (o := .tup []) (fun b ob q => Heap.get?_push_of_some _ q) (Nat.le_refl _) ?_, rfl, q _ (I.hok.fresh (Nat.le_refl _))⟩
    exact ⟨Nat.zero_le _, [], .nil, ⟨_, Heap.get?_push_size _ rfl, rfl, _, rfl⟩⟩
end L2

/-! AB1: values as trees, mutable objects by number; the judgement JE over HandS -/
namespace AB
open PySem PySem.Spec
open PyProof.Rows hiding St
open L2

/-- a value: immutable data by content, mutable objects by number -/
inductive PV where
  | non | bl (b : Bool) | int (i : Int) | str (x : Str)
  | tup (xs : List PV) | lst (xs : List PV) | ro (xs : List PV) | loc (n : Nat) | raw (v : V)

/-- a mutable object -/
inductive AO where
  | lst (xs : List PV)
  | dK (kvs : List (Key × PV))
  | dT (kvs : List (List Key × PV))
  | fK (kvs : List (Key × PV))

abbrev ASt := List (Option PV)
abbrev AH := List AO
/-- what an expression comes to -/
inductive Res (α : Type) where
  | ok (a : α) (h : AH)
  | exc (c : Addr) (fs : List (Str × PV)) (h : AH)
  | stuck
def Res.bind {α β : Type} : Res α → (α → AH → Res β) → Res β
  | .ok a h, f => f a h
  | .exc c fs h, _ => .exc c fs h
  | .stuck, _ => .stuck
@[simp] theorem Res.bind_ok {α β : Type} (a : α) (h : AH) (f : α → AH → Res β) : (Res.ok a h).bind f = f a h := rfl
@[simp] theorem Res.bind_exc {α β : Type} (c : Addr) (fs : List (Str × PV)) (h : AH) (f : α → AH → Res β) : (Res.exc c fs h : Res α).bind f = .exc c fs h := rfl
@[simp] theorem Res.bind_stuck {α β : Type} (f : α → AH → Res β) : (Res.stuck : Res α).bind f = .stuck := rfl
inductive Fl where
  | nx | rt (v : PV) | bk | ct
/-- what a statement comes to -/
inductive SRes where
  | fin (f : Fl) (σ : ASt) (h : AH)
  | exc (c : Addr) (fs : List (Str × PV)) (σ : ASt) (h : AH)
  | stuck
abbrev AE := ASt → AH → Res PV
abbrev AL := ASt → AH → Res (List PV)
abbrev AT := ASt → AH → Res Bool
abbrev AS := ASt → AH → SRes

/-- the written part and the world -/
structure KW where
  fr : PySem.W.Frag
  w : World
abbrev cxKW (X : Cx) : KW := ⟨X.K, X.w⟩
section
variable (K : KW)
/-- a tuple, a list that nobody writes any more -/
def FxT (ρ : List Addr) (H : Hp) (p : Addr) (vs : List V) : Prop :=
  (Rd H p (.tup vs) ∧ p ∉ ρ) ∨ ∃ (o : Obj) (its : Array Value) (n : Nat), K.fr.lookup p = some o ∧ o.cls = .type "tuple" ∧ o.data = .seq its n ∧ its.size ≤ sizeLine ∧ Vals vs its.toList
def FxL (ρ : List Addr) (H : Hp) (p : Addr) (vs : List V) : Prop := H p = some (.lst vs) ∧ p ∉ ρ
/-- a list that was handed in (the script) -/
def FxR (ρ : List Addr) (H : Hp) (p : Addr) (vs : List V) : Prop :=
  (Rd H p (.lst vs) ∧ p ∉ ρ) ∨ ∃ (o : Obj) (its : Array Value) (n : Nat), K.fr.lookup p = some o ∧ o.cls = .type "list" ∧ o.dict = none ∧ o.data = .seq its n ∧ its.size ≤ sizeLine ∧ Vals vs its.toList
inductive RV (ρ : List Addr) (H : Hp) : PV → V → Prop where
  | non : RV ρ H .non .non
  | bl (b : Bool) : RV ρ H (.bl b) (.bl b)
  | int (i : Int) : RV ρ H (.int i) (.int i)
  | str (x : Str) : RV ρ H (.str x) (.str x)
  | tup {xs : List PV} {p : Addr} (vs : List V) (f : FxT K ρ H p vs) (n : vs.length = xs.length) (e : ∀ (i : Nat) (x : PV) (v : V), xs[i]? = some x → vs[i]? = some v → RV ρ H x v) : RV ρ H (.tup xs) (.ref p)
  | lst {xs : List PV} {p : Addr} (vs : List V) (f : FxL ρ H p vs) (n : vs.length = xs.length) (e : ∀ (i : Nat) (x : PV) (v : V), xs[i]? = some x → vs[i]? = some v → RV ρ H x v) : RV ρ H (.lst xs) (.ref p)
  | ro {xs : List PV} {p : Addr} (vs : List V) (f : FxR K ρ H p vs) (n : vs.length = xs.length) (e : ∀ (i : Nat) (x : PV) (v : V), xs[i]? = some x → vs[i]? = some v → RV ρ H x v) : RV ρ H (.ro xs) (.ref p)
  | loc {n : Nat} {p : Addr} (e : ρ[n]? = some p) : RV ρ H (.loc n) (.ref p)
  | raw (v : V) : RV ρ H (.raw v) v
/-- lists of values -/
structure RVs (ρ : List Addr) (H : Hp) (xs : List PV) (vs : List V) : Prop where
  len : vs.length = xs.length
  at_ : ∀ (i : Nat) (x : PV) (v : V), xs[i]? = some x → vs[i]? = some v → RV K ρ H x v
/-- a dict's pairs -/
structure RKV {κ : Type} (ρ : List Addr) (H : Hp) (xs : List (κ × PV)) (vs : List (κ × V)) : Prop where
  keys : vs.map (·.1) = xs.map (·.1)
  vals : RVs K ρ H (xs.map (·.2)) (vs.map (·.2))
/-- an object -/
def RO (ρ : List Addr) (H : Hp) (a : Addr) : AO → Prop
  | .lst xs => ∃ vs, H a = some (.lst vs) ∧ RVs K ρ H xs vs
  | .dK kvs => ∃ vs, H a = some (.dK vs) ∧ RKV K ρ H kvs vs
  | .dT kvs => ∃ vs, H a = some (.dT vs) ∧ RKV K ρ H kvs vs
  | .fK kvs => ∃ ob vs, H a = some (.frz ob (.dK vs)) ∧ RKV K ρ H kvs vs
structure Rep (ρ : List Addr) (h : AH) (H : Hp) : Prop where
  nd : ρ.Nodup
  len : ρ.length = h.length
  obj : ∀ (n : Nat) (a : Addr) (o : AO), ρ[n]? = some a → h[n]? = some o → RO K ρ H a o
/-- slots -/
def RSo (ρ : List Addr) (H : Hp) : Option PV → Option V → Prop
  | none, _ => True
  | some x, some v => RV K ρ H x v
  | some _, none => False
structure RS (ρ : List Addr) (H : Hp) (σ : ASt) (τ : St) : Prop where
  len : τ.length = σ.length
  at_ : ∀ (i : Nat) (x : PV), σ[i]? = some (some x) → ∃ v, τ[i]? = some (some v) ∧ RV K ρ H x v
end
/-- from one moment to a later one -/
structure Ext (ρ : List Addr) (H : Hp) (ρ' : List Addr) (H' : Hp) : Prop where
  pre : ρ <+: ρ'
  old : ∀ p o, H p = some o → p ∉ ρ → H' p = some o ∧ p ∉ ρ'
  frz : ∀ p ob u, H p = some (.frz ob u) → H' p = some (.frz ob u)

section
variable {K : KW} {ρ ρ' ρ2 : List Addr} {H H' H2 : Hp} {h h' : AH}
theorem Ext.refl : Ext ρ H ρ H := ⟨List.prefix_refl _, fun _ _ e n => ⟨e, n⟩, fun _ _ _ e => e⟩
theorem Ext.trans (a : Ext ρ H ρ' H') (b : Ext ρ' H' ρ2 H2) : Ext ρ H ρ2 H2 :=
  ⟨a.pre.trans b.pre, fun p o e n => let ⟨e1, n1⟩ := a.old p o e n; b.old p o e1 n1, fun p ob u e => b.frz p ob u (a.frz p ob u e)⟩
theorem Ext.get {n : Nat} {p : Addr} (a : Ext ρ H ρ' H') (e : ρ[n]? = some p) : ρ'[n]? = some p := by
  obtain ⟨t, rfl⟩ := a.pre
  rw [List.getElem?_append_left (List.getElem?_eq_some_iff.mp e).1]; exact e
theorem Ext.rd {p : Addr} {u : HO} (a : Ext ρ H ρ' H') (r : Rd H p u) (n : p ∉ ρ) : Rd H' p u ∧ p ∉ ρ' := by
  rcases r with r | ⟨o, r⟩
  · exact ⟨.inl (a.old _ _ r n).1, (a.old _ _ r n).2⟩
  · exact ⟨.inr ⟨o, (a.old _ _ r n).1⟩, (a.old _ _ r n).2⟩
theorem FxT.mono {p : Addr} {vs : List V} (f : FxT K ρ H p vs) (a : Ext ρ H ρ' H') : FxT K ρ' H' p vs := by
  rcases f with ⟨r, n⟩ | c
  · exact .inl (a.rd r n)
  · exact .inr c
theorem FxL.mono {p : Addr} {vs : List V} (f : FxL ρ H p vs) (a : Ext ρ H ρ' H') : FxL ρ' H' p vs := a.old _ _ f.1 f.2
theorem FxR.mono {p : Addr} {vs : List V} (f : FxR K ρ H p vs) (a : Ext ρ H ρ' H') : FxR K ρ' H' p vs := by
  rcases f with ⟨r, n⟩ | c
  · exact .inl (a.rd r n)
  · exact .inr c
theorem FxT.sq {p : Addr} {vs : List V} (f : FxT K ρ H p vs) : SqT K.fr H p vs := by
  rcases f with ⟨r, n⟩ | c
  · exact .inl r
  · exact .inr c
theorem FxL.sq {p : Addr} {vs : List V} (f : FxL ρ H p vs) : SqL K.fr H p vs := .inl (.inl f.1)
theorem FxR.sq {p : Addr} {vs : List V} (f : FxR K ρ H p vs) : SqL K.fr H p vs := by
  rcases f with ⟨r, n⟩ | c
  · exact .inl r
  · exact .inr c
theorem RV.mono {x : PV} {v : V} (r : RV K ρ H x v) (a : Ext ρ H ρ' H') : RV K ρ' H' x v := by
  induction r with
  | non => exact .non
  | bl b => exact .bl b
  | int i => exact .int i
  | str x => exact .str x
  | tup vs f n e ih => exact .tup vs (f.mono a) n ih
  | lst vs f n e ih => exact .lst vs (f.mono a) n ih
  | ro vs f n e ih => exact .ro vs (f.mono a) n ih
  | loc e => exact .loc (a.get e)
  | raw v => exact .raw v
theorem RVs.mono {xs : List PV} {vs : List V} (r : RVs K ρ H xs vs) (a : Ext ρ H ρ' H') : RVs K ρ' H' xs vs := ⟨r.len, fun i x v e1 e2 => (r.at_ i x v e1 e2).mono a⟩
theorem RKV.mono {κ : Type} {xs : List (κ × PV)} {vs : List (κ × V)} (r : RKV K ρ H xs vs) (a : Ext ρ H ρ' H') : RKV K ρ' H' xs vs := ⟨r.keys, r.vals.mono a⟩
theorem RS.mono {σ : ASt} {τ : St} (r : RS K ρ H σ τ) (a : Ext ρ H ρ' H') : RS K ρ' H' σ τ :=
  ⟨r.len, fun i x e => let ⟨v, e1, q⟩ := r.at_ i x e; ⟨v, e1, q.mono a⟩⟩
theorem RVs.nil : RVs K ρ H [] [] := ⟨rfl, fun _ _ _ e => by simp at e⟩
theorem RVs.cons {x : PV} {v : V} {xs : List PV} {vs : List V} (r : RV K ρ H x v) (s : RVs K ρ H xs vs) : RVs K ρ H (x :: xs) (v :: vs) :=
  ⟨by simp [s.len], fun i y u e1 e2 => by
    cases i with
    | zero => simp at e1 e2; subst e1; subst e2; exact r
    | succ i => exact s.at_ i y u (by simpa using e1) (by simpa using e2)⟩
theorem RVs.nil_inv {vs : List V} (r : RVs K ρ H [] vs) : vs = [] := List.eq_nil_of_length_eq_zero (by simpa using r.len)
theorem RVs.cons_inv {x : PV} {xs : List PV} {vs : List V} (r : RVs K ρ H (x :: xs) vs) : ∃ v vs', vs = v :: vs' ∧ RV K ρ H x v ∧ RVs K ρ H xs vs' := by
  cases vs with
  | nil => have := r.len; simp at this
  | cons v vs' => exact ⟨v, vs', rfl, r.at_ 0 x v rfl rfl, by have := r.len; simpa using this, fun i y u e1 e2 => r.at_ (i + 1) y u (by simpa using e1) (by simpa using e2)⟩
theorem RVs.append {xs ys : List PV} {vs us : List V} (r : RVs K ρ H xs vs) (s : RVs K ρ H ys us) : RVs K ρ H (xs ++ ys) (vs ++ us) :=
  ⟨by simp [r.len, s.len], fun i y u e1 e2 => by
    by_cases hi : i < xs.length
    · rw [List.getElem?_append_left hi] at e1
      rw [List.getElem?_append_left (by rw [r.len]; exact hi)] at e2
      exact r.at_ i y u e1 e2
    · rw [List.getElem?_append_right (by omega)] at e1
      rw [List.getElem?_append_right (by rw [r.len]; omega), r.len] at e2
      exact s.at_ _ y u e1 e2⟩
theorem RVs.get {xs : List PV} {vs : List V} {i : Nat} {x : PV} (r : RVs K ρ H xs vs) (e : xs[i]? = some x) : ∃ v, vs[i]? = some v ∧ RV K ρ H x v := by
  have hi : i < vs.length := by rw [r.len]; exact (List.getElem?_eq_some_iff.mp e).1
  exact ⟨vs[i], by simp [hi], r.at_ i x _ e (by simp [hi])⟩
theorem RVs.set {xs : List PV} {vs : List V} {i : Nat} {x : PV} {v : V} (r : RVs K ρ H xs vs) (q : RV K ρ H x v) : RVs K ρ H (xs.set i x) (vs.set i v) :=
  ⟨by simp [r.len], fun j y u e1 e2 => by
    by_cases hj : i = j
    · subst hj
      have h1 : i < xs.length := by have := (List.getElem?_eq_some_iff.mp e1).1; simpa using this
      rw [List.getElem?_set_self h1] at e1
      rw [List.getElem?_set_self (by rw [r.len]; exact h1)] at e2
      cases e1; cases e2; exact q
    · rw [List.getElem?_set_ne hj] at e1 e2
      exact r.at_ j y u e1 e2⟩
theorem RVs.take {xs : List PV} {vs : List V} (n : Nat) (r : RVs K ρ H xs vs) : RVs K ρ H (xs.take n) (vs.take n) :=
  ⟨by simp [r.len], fun j y u e1 e2 => by
    have hj : j < n := by
      have := (List.getElem?_eq_some_iff.mp e1).1
      rw [List.length_take] at this; omega
    rw [List.getElem?_take_of_lt hj] at e1 e2
    exact r.at_ j y u e1 e2⟩
theorem RVs.drop {xs : List PV} {vs : List V} (n : Nat) (r : RVs K ρ H xs vs) : RVs K ρ H (xs.drop n) (vs.drop n) :=
  ⟨by simp [r.len], fun j y u e1 e2 => by
    rw [List.getElem?_drop] at e1 e2
    exact r.at_ _ y u e1 e2⟩
theorem RVs.tail {xs : List PV} {vs : List V} (r : RVs K ρ H xs vs) : RVs K ρ H xs.tail vs.tail := by
  rw [← List.drop_one, ← List.drop_one]; exact r.drop 1
theorem RVs.eraseIdx {xs : List PV} {vs : List V} (n : Nat) (r : RVs K ρ H xs vs) : RVs K ρ H (xs.eraseIdx n) (vs.eraseIdx n) := by
  rw [List.eraseIdx_eq_take_drop_succ, List.eraseIdx_eq_take_drop_succ]
  exact (r.take n).append (r.drop (n + 1))
theorem RVs.reverse {xs : List PV} {vs : List V} (r : RVs K ρ H xs vs) : RVs K ρ H xs.reverse vs.reverse :=
  ⟨by simp [r.len], fun j y u e1 e2 => by
    have hj : j < xs.length := by have := (List.getElem?_eq_some_iff.mp e1).1; simpa using this
    rw [List.getElem?_reverse hj] at e1
    rw [List.getElem?_reverse (by rw [r.len]; exact hj), r.len] at e2
    exact r.at_ _ y u e1 e2⟩
/-! what a value of a known shape is -/
theorem RV.int_inv {i : Int} {v : V} (r : RV K ρ H (.int i) v) : v = .int i := by cases r; rfl
theorem RV.bl_inv {b : Bool} {v : V} (r : RV K ρ H (.bl b) v) : v = .bl b := by cases r; rfl
theorem RV.str_inv {x : Str} {v : V} (r : RV K ρ H (.str x) v) : v = .str x := by cases r; rfl
theorem RV.non_inv {v : V} (r : RV K ρ H .non v) : v = .non := by cases r; rfl
theorem RV.tup_inv {xs : List PV} {v : V} (r : RV K ρ H (.tup xs) v) : ∃ p vs, v = .ref p ∧ FxT K ρ H p vs ∧ RVs K ρ H xs vs := by
  cases r with | tup vs f n e => exact ⟨_, vs, rfl, f, n, e⟩
theorem RV.lst_inv {xs : List PV} {v : V} (r : RV K ρ H (.lst xs) v) : ∃ p vs, v = .ref p ∧ FxL ρ H p vs ∧ RVs K ρ H xs vs := by
  cases r with | lst vs f n e => exact ⟨_, vs, rfl, f, n, e⟩
theorem RV.ro_inv {xs : List PV} {v : V} (r : RV K ρ H (.ro xs) v) : ∃ p vs, v = .ref p ∧ FxR K ρ H p vs ∧ RVs K ρ H xs vs := by
  cases r with | ro vs f n e => exact ⟨_, vs, rfl, f, n, e⟩
theorem RV.loc_inv {n : Nat} {v : V} (r : RV K ρ H (.loc n) v) : ∃ p, v = .ref p ∧ ρ[n]? = some p := by
  cases r with | loc e => exact ⟨_, rfl, e⟩
theorem RVs.ints {ns : List Int} {vs : List V} (r : RVs K ρ H (ns.map PV.int) vs) : vs = ns.map V.int := by
  induction ns generalizing vs with
  | nil => exact r.nil_inv
  | cons n ns ih =>
    obtain ⟨v, vs', rfl, q, s⟩ := r.cons_inv
    rw [q.int_inv, ih s]; rfl
theorem RVs.bools {ns : List Bool} {vs : List V} (r : RVs K ρ H (ns.map PV.bl) vs) : vs = ns.map V.bl := by
  induction ns generalizing vs with
  | nil => exact r.nil_inv
  | cons n ns ih =>
    obtain ⟨v, vs', rfl, q, s⟩ := r.cons_inv
    rw [q.bl_inv, ih s]; rfl
theorem RVs.of_ints (ns : List Int) : RVs K ρ H (ns.map PV.int) (ns.map V.int) := by
  induction ns with
  | nil => exact .nil
  | cons n ns ih => exact .cons (.int n) ih
/-! the heap's steps -/
theorem nodup_at {α : Type} {N : List α} (hN : N.Nodup) {i j : Nat} {x : α} (a : N[i]? = some x) (b : N[j]? = some x) : i = j := by
  induction N generalizing i j with
  | nil => simp at a
  | cons y r ih =>
    have hd := List.nodup_cons.mp hN
    cases i with
    | zero =>
      cases j with
      | zero => rfl
      | succ j => simp at a b; subst a; exact absurd (List.mem_of_getElem? b) hd.1
    | succ i =>
      cases j with
      | zero => simp at a b; subst b; exact absurd (List.mem_of_getElem? a) hd.1
      | succ j =>
        have q := ih hd.2 (i := i) (j := j) (by simpa using a) (by simpa using b)
        omega
/-- an untracked thing is laid -/
theorem Ext.fresh {p : Addr} {o : HO} (hp : H p = none) : Ext ρ H ρ (upd H p o) :=
  ⟨List.prefix_refl _, fun q u e n => ⟨by rw [upd_ne (ne_of_none e hp)]; exact e, n⟩, fun q ob u e => by rw [upd_ne (ne_of_none e hp)]; exact e⟩
theorem RO.mono {a : Addr} {o : AO} (r : RO K ρ H a o) (e : Ext ρ H ρ' H') (ha : H' a = H a) : RO K ρ' H' a o := by
  cases o with
  | lst xs => obtain ⟨vs, e1, q⟩ := r; exact ⟨vs, ha.trans e1, q.mono e⟩
  | dK xs => obtain ⟨vs, e1, q⟩ := r; exact ⟨vs, ha.trans e1, q.mono e⟩
  | dT xs => obtain ⟨vs, e1, q⟩ := r; exact ⟨vs, ha.trans e1, q.mono e⟩
  | fK xs => obtain ⟨ob, vs, e1, q⟩ := r; exact ⟨ob, vs, ha.trans e1, q.mono e⟩
theorem RO.here {a : Addr} {o : AO} (r : RO K ρ H a o) : ∃ u, H a = some u := by
  cases o with
  | lst xs => obtain ⟨vs, e1, q⟩ := r; exact ⟨_, e1⟩
  | dK xs => obtain ⟨vs, e1, q⟩ := r; exact ⟨_, e1⟩
  | dT xs => obtain ⟨vs, e1, q⟩ := r; exact ⟨_, e1⟩
  | fK xs => obtain ⟨ob, vs, e1, q⟩ := r; exact ⟨_, e1⟩
theorem Rep.here {n : Nat} {a : Addr} (R : Rep K ρ h H) (e : ρ[n]? = some a) : ∃ u, H a = some u := by
  have hn : n < h.length := by rw [← R.len]; exact (List.getElem?_eq_some_iff.mp e).1
  obtain ⟨u, e1⟩ := (R.obj n a h[n] e (by simp [hn])).here
  exact ⟨u, e1⟩
theorem Rep.notin {p : Addr} (R : Rep K ρ h H) (hp : H p = none) : p ∉ ρ := fun z => by
  obtain ⟨n, e⟩ := List.getElem?_of_mem z
  obtain ⟨u, e1⟩ := R.here e
  rw [hp] at e1; cases e1
theorem Rep.fresh {p : Addr} {o : HO} (R : Rep K ρ h H) (hp : H p = none) : Rep K ρ h (upd H p o) :=
  ⟨R.nd, R.len, fun n a u e1 e2 => (R.obj n a u e1 e2).mono (.fresh hp) (by
    obtain ⟨w, e3⟩ := R.here e1
    exact upd_ne (ne_of_none e3 hp))⟩
/-- a new object -/
theorem Ext.push {p : Addr} {o : HO} (hp : H p = none) : Ext ρ H (ρ ++ [p]) (upd H p o) :=
  ⟨List.prefix_append _ _, fun q u e n => ⟨by rw [upd_ne (ne_of_none e hp)]; exact e, by
    rw [List.mem_append, List.mem_singleton]; rintro (z | z); exact n z; subst z; rw [hp] at e; cases e⟩, fun q ob u e => by rw [upd_ne (ne_of_none e hp)]; exact e⟩
theorem Rep.push {p : Addr} {o : HO} {u : AO} (R : Rep K ρ h H) (hp : H p = none) (r : RO K (ρ ++ [p]) (upd H p o) p u) : Rep K (ρ ++ [p]) (h ++ [u]) (upd H p o) := by
  refine ⟨?_, by simp [R.len], fun n a w e1 e2 => ?_⟩
  · rw [List.nodup_append]
    exact ⟨R.nd, by simp, fun a ha b hb z => by
      rw [List.mem_singleton] at hb; subst hb; subst z; exact R.notin hp ha⟩
  · by_cases hn : n < ρ.length
    · rw [List.getElem?_append_left hn] at e1
      rw [List.getElem?_append_left (by rw [← R.len]; exact hn)] at e2
      exact (R.obj n a w e1 e2).mono (.push hp) (by
        obtain ⟨w, e3⟩ := R.here e1
        exact upd_ne (ne_of_none e3 hp))
    · rw [List.getElem?_append_right (by omega)] at e1
      rw [List.getElem?_append_right (by rw [← R.len]; omega), ← R.len] at e2
      have e0 : n - ρ.length = 0 := by
        have := (List.getElem?_eq_some_iff.mp e1).1
        simp at this; omega
      rw [e0] at e1 e2
      simp at e1 e2
      subst e1; subst e2; exact r
/-- an object is written -/
theorem Ext.write {n : Nat} {a : Addr} {o : HO} (e : ρ[n]? = some a) (nf : ∀ ob u, H a ≠ some (.frz ob u)) : Ext ρ H ρ (upd H a o) :=
  ⟨List.prefix_refl _, fun q u e1 nq => ⟨by
    have z : q ≠ a := by rintro rfl; exact nq (List.mem_of_getElem? e)
    rw [upd_ne z]; exact e1, nq⟩, fun q ob u e1 => by
    have z : q ≠ a := by rintro rfl; exact nf ob u e1
    rw [upd_ne z]; exact e1⟩
theorem nfz {H : Hp} {a : Addr} {o : HO} (e : H a = some o) (n : ∀ ob u, o ≠ .frz ob u) : ∀ ob u, H a ≠ some (.frz ob u) := fun ob u z => by rw [e] at z; cases z; exact n ob u rfl
theorem nfL {H : Hp} {a : Addr} {vs : List V} (e : H a = some (.lst vs)) : ∀ ob u, H a ≠ some (.frz ob u) := nfz e fun _ _ z => by cases z
theorem nfK {H : Hp} {a : Addr} {vs : List (Key × V)} (e : H a = some (.dK vs)) : ∀ ob u, H a ≠ some (.frz ob u) := nfz e fun _ _ z => by cases z
theorem Rep.write {n : Nat} {a : Addr} {o : HO} {u : AO} (R : Rep K ρ h H) (e : ρ[n]? = some a) (nf : ∀ ob u, H a ≠ some (.frz ob u)) (r : RO K ρ (upd H a o) a u) : Rep K ρ (h.set n u) (upd H a o) := by
  refine ⟨R.nd, by simp [R.len], fun m b w e1 e2 => ?_⟩
  by_cases hm : n = m
  · subst hm
    rw [e] at e1; cases e1
    rw [List.getElem?_set_self (by rw [← R.len]; exact (List.getElem?_eq_some_iff.mp e).1)] at e2
    cases e2; exact r
  · rw [List.getElem?_set_ne hm] at e2
    refine (R.obj m b w e1 e2).mono (.write e nf) (upd_ne fun z => hm ?_)
    subst z
    have h1 := (List.getElem?_eq_some_iff.mp e)
    have h2 := (List.getElem?_eq_some_iff.mp e1)
    exact nodup_at R.nd e e1
theorem RS.set {σ : ASt} {τ : St} {x : PV} {v : V} (r : RS K ρ H σ τ) (i : Nat) (q : RV K ρ H x v) : RS K ρ H (σ.set i (some x)) (τ.set i (some v)) :=
  ⟨by simp [r.len], fun j y e => by
    by_cases hj : i = j
    · subst hj
      have h1 : i < σ.length := by have := (List.getElem?_eq_some_iff.mp e).1; simpa using this
      rw [List.getElem?_set_self h1] at e
      cases e
      exact ⟨v, by rw [List.getElem?_set_self (by rw [r.len]; exact h1)], q⟩
    · rw [List.getElem?_set_ne hj] at e
      obtain ⟨u, e1, q1⟩ := r.at_ j y e
      exact ⟨u, by rw [List.getElem?_set_ne hj]; exact e1, q1⟩⟩
theorem RS.unset {σ : ASt} {τ : St} (r : RS K ρ H σ τ) (i : Nat) (w : Option V) : RS K ρ H (σ.set i none) (τ.set i w) :=
  ⟨by simp [r.len], fun j y e => by
    by_cases hj : i = j
    · subst hj
      have h1 : i < σ.length := by have := (List.getElem?_eq_some_iff.mp e).1; simpa using this
      rw [List.getElem?_set_self h1] at e
      cases e
    · rw [List.getElem?_set_ne hj] at e
      obtain ⟨u, e1, q1⟩ := r.at_ j y e
      exact ⟨u, by rw [List.getElem?_set_ne hj]; exact e1, q1⟩⟩
end

/-! ### the judgement -/
section
variable (K : KW) (W : WX)
/-- an exception's own dict -/
def XD (ρ : List Addr) (H : Hp) (d : Addr) (fs : List (Str × PV)) : Prop := d ∉ ρ ∧ ∃ vs, H d = some (.xd vs) ∧ RKV K ρ H fs vs
def Exc (ρ : List Addr) (σ : St) (H : Hp) (c : Addr) (fs : List (Str × PV)) (h : AH) : Prop :=
  ∀ ρ' H' d, Ext ρ H ρ' H' → Rep K ρ' h H' → XD K ρ' H' d fs → W (.ref c) (some d) σ H'
/-- a result of type α, whose values are told by R -/
def Out {α β : Type} (R : List Addr → Hp → α → β → Prop) (ρ : List Addr) (σ : St) (H : Hp) (r : Res α) (Q : β → Hp → Prop) : Prop :=
  match r with
  | .ok a h => ∀ ρ' H' x, Ext ρ H ρ' H' → Rep K ρ' h H' → R ρ' H' a x → Q x H'
  | .exc c fs h => Exc K W ρ σ H c fs h
  | .stuck => False
abbrev OutE := Out K W (RV K)
abbrev OutT := Out K W (fun _ _ (a b : Bool) => a = b)
abbrev OutL := Out K W (RVs K)
def LE (m : AE) : TE := fun τ H Q => ∃ ρ h σ, Rep K ρ h H ∧ RS K ρ H σ τ ∧ OutE K W ρ τ H (m σ h) Q
def LT (m : AT) : TT := fun τ H Q => ∃ ρ h σ, Rep K ρ h H ∧ RS K ρ H σ τ ∧ OutT K W ρ τ H (m σ h) Q
def LL (m : AL) : TA := fun τ H Q => ∃ ρ h σ, Rep K ρ h H ∧ RS K ρ H σ τ ∧ OutL K W ρ τ H (m σ h) Q
def OutS (ρ : List Addr) (H : Hp) (r : SRes) (D : Ends) : Prop :=
  match r with
  | .fin .nx σ h => ∀ ρ' τ H', Ext ρ H ρ' H' → Rep K ρ' h H' → RS K ρ' H' σ τ → D.nx τ H'
  | .fin .bk σ h => ∀ ρ' τ H', Ext ρ H ρ' H' → Rep K ρ' h H' → RS K ρ' H' σ τ → D.bk τ H'
  | .fin .ct σ h => ∀ ρ' τ H', Ext ρ H ρ' H' → Rep K ρ' h H' → RS K ρ' H' σ τ → D.ct τ H'
  | .fin (.rt v) _ h => ∀ ρ' x H', Ext ρ H ρ' H' → Rep K ρ' h H' → RV K ρ' H' v x → D.rt x H'
  | .exc c fs σ h => ∀ ρ' τ H' d, Ext ρ H ρ' H' → Rep K ρ' h H' → RS K ρ' H' σ τ → XD K ρ' H' d fs → W (.ref c) (some d) τ H'
  | .stuck => False
def LS (m : AS) : TS := fun D τ H => ∃ ρ h σ, Rep K ρ h H ∧ RS K ρ H σ τ ∧ OutS K W ρ H (m σ h) D
end
structure JE (X : Cx) (W : WX) (e : Expr) (m : AE) : Prop where
  pe : PE X e (LE (cxKW X) W m)
structure JT (X : Cx) (W : WX) (e : Expr) (m : AT) : Prop where
  pt : PT X e (LT (cxKW X) W m)
structure JA (X : Cx) (W : WX) (es : List Expr) (m : AL) : Prop where
  pa : PA X es (LL (cxKW X) W m)
structure JS (X : Cx) (W : WX) (st : Stmt) (m : AS) : Prop where
  ps : PS X st (LS (cxKW X) W m)
structure JSs (X : Cx) (W : WX) (st : List Stmt) (m : AS) : Prop where
  pss : PSs X st (LS (cxKW X) W m)

section
variable {X : Cx} {K : KW} {W : WX} {ρ ρ' ρ2 : List Addr} {H H' H2 : Hp} {h h' : AH} {τ : St}
theorem PEmono {e : Expr} {t t' : TE} (p : PE X e t) (i : ∀ σ H Q, t' σ H Q → t σ H Q) : PE X e t' := ⟨fun pins s σ H Q I h => p.run pins s σ H Q I (i σ H Q h)⟩
theorem PTmono {e : Expr} {t t' : TT} (p : PT X e t) (i : ∀ σ H Q, t' σ H Q → t σ H Q) : PT X e t' := ⟨fun pins s σ H Q I h => p.run pins s σ H Q I (i σ H Q h)⟩
theorem PWmono {e : Expr} {t t' : TT} (p : PW X e t) (i : ∀ σ H Q, t' σ H Q → t σ H Q) : PW X e t' := ⟨fun w pins s σ H Q I h => p.run w pins s σ H Q I (i σ H Q h)⟩
theorem PAmono {e : List Expr} {t t' : TA} (p : PA X e t) (i : ∀ σ H Q, t' σ H Q → t σ H Q) : PA X e t' := ⟨fun pos pins s σ H Q I h => p.run pos pins s σ H Q I (i σ H Q h)⟩
theorem PSmono {e : Stmt} {t t' : TS} (p : PS X e t) (i : ∀ D σ H, t' D σ H → t D σ H) : PS X e t' := ⟨fun pins s σ H D I h => p.run pins s σ H D I (i D σ H h)⟩
theorem PSsmono {e : List Stmt} {t t' : TS} (p : PSs X e t) (i : ∀ D σ H, t' D σ H → t D σ H) : PSs X e t' := ⟨fun pins s σ H D I h => p.run pins s σ H D I (i D σ H h)⟩
theorem Exc.later {c : Addr} {fs : List (Str × PV)} (x : Exc K W ρ τ H c fs h) (e : Ext ρ H ρ' H') : Exc K W ρ' τ H' c fs h := fun r G d a b f => x r G d (e.trans a) b f
section
variable {α β α' β' : Type} {R : List Addr → Hp → α → β → Prop} {R' : List Addr → Hp → α' → β' → Prop}
theorem Out.later {r : Res α} {Q : β → Hp → Prop} (x : Out K W R ρ τ H r Q) (e : Ext ρ H ρ' H') : Out K W R ρ' τ H' r Q := by
  cases r with
  | ok a h => exact fun r G y a b f => x r G y (e.trans a) b f
  | exc c fs h => exact Exc.later x e
  | stuck => exact x
theorem Out.mono {r : Res α} {Q Q' : β → Hp → Prop} (x : Out K W R ρ τ H r Q) (i : ∀ y G, Q y G → Q' y G) : Out K W R ρ τ H r Q' := by
  cases r with
  | ok a h => exact fun r G y a b f => i _ _ (x r G y a b f)
  | exc c fs h => exact x
  | stuck => exact x
theorem Out.bind {r : Res α} {f : α → AH → Res α'} {Q : β' → Hp → Prop} (x : Out K W R' ρ τ H (r.bind f) Q) :
    Out K W R ρ τ H r (fun y G => ∃ ρ1 a h1, Ext ρ H ρ1 G ∧ Rep K ρ1 h1 G ∧ R ρ1 G a y ∧ Out K W R' ρ1 τ G (f a h1) Q) := by
  cases r with
  | ok a h => exact fun r G y e b g => ⟨r, a, h, e, b, g, Out.later x e⟩
  | exc c fs h => exact x
  | stuck => exact x
theorem Out.done {a : α} {y : β} {Q : β → Hp → Prop} (x : Out K W R ρ τ H (.ok a h) Q) (b : Rep K ρ h H) (r : R ρ H a y) : Q y H := x ρ H y .refl b r
end
end
end AB

/-! AB2: operators and plain expressions -/
namespace AB
open PySem PySem.Spec
open PyProof.Rows hiding St
open L2
/-! ### values at places -/
section
variable {X : Cx} {W : WX} {K : KW}
def aC (v : PV) : AE := fun _ h => .ok v h
def aVar (i : Nat) : AE := fun σ h => match σ[i]? with
  | some (some v) => .ok v h
  | _ => .stuck
theorem je_c {e : Expr} {v : V} {x : PV} (p : PE X e (tC v)) (r : ∀ ρ H, RV (cxKW X) ρ H x v) : JE X W e (aC x) :=
  ⟨PEmono p fun τ H Q ⟨ρ, h, σ, R, S, o⟩ => Out.done o R (r ρ H)⟩
theorem je_int {i j pos} : JE X W (.Constant (.int i) j pos) (aC (.int i)) := je_c pe_int fun _ _ => .int i
theorem je_bl {i j pos} : JE X W (.Constant (.bool i) j pos) (aC (.bl i)) := je_c pe_bl fun _ _ => .bl i
theorem je_non {j pos} : JE X W (.Constant .none j pos) (aC .non) := je_c pe_non fun _ _ => .non
theorem je_str {x j pos} : JE X W (.Constant (.str x) j pos) (aC (.str x)) := je_c pe_str fun _ _ => .str x
theorem je_var {i : Nat} {e : Expr} (p : PE X e (tVar i)) : JE X W e (aVar i) :=
  ⟨PEmono p fun τ H Q ⟨ρ, h, σ, R, S, o⟩ => by
    unfold aVar at o
    split at o
    · rename_i v e
      obtain ⟨u, e1, r⟩ := S.at_ i v e
      exact ⟨u, e1, Out.done o R r⟩
    · exact o.elim⟩
theorem jv (i : Nat) {x : Str} {pos : Pos} (hN : X.N[i]? = some x := by rfl) (hv : Vis X.env.scope x := by first | exact Or.inl rfl | exact Or.inr (Or.inl rfl) | exact Or.inr (Or.inr rfl)) (hd : (x == ("__debug__" : Str)) = false := by decide)
    (hcd : (x == ("__classdict__" : Str)) = false := by decide) : JE X W (.Name x pos) (aVar i) := je_var (pv i hN hv hd hcd)
/-- a module's constant -/
theorem je_glob {x : Str} {v : V} {u : Value} {y : PV} {pos : Pos} (hm : X.mg x = some u) (r : RelV v u) (q : ∀ ρ H, RV (cxKW X) ρ H y v) (hg : Gl X x := by rfl) (hd : (x == ("__debug__" : Str)) = false := by decide) : JE X W (.Name x pos) (aC y) :=
  je_c (pe_glob hg hm r hd) q
/-! ### two places -/
abbrev F2 := PV → PV → AH → Res PV
def OpA (K : KW) (r : R2) (f : F2) : Prop := ∀ (ρ : List Addr) (h : AH) (H : Hp) (τ : St) (W : WX) (x y : V) (v u : PV) (Q : VK), Rep K ρ h H → RV K ρ H v x → RV K ρ H u y → OutE K W ρ τ H (f v u h) Q → r x y H Q
structure JOp (X : Cx) (g : Value → Value → Sem Value) (f : F2) : Prop where
  ex : ∃ r, OpR X g r ∧ OpA (cxKW X) r f
def aOp (f : F2) (a b : AE) : AE := fun σ h => (a σ h).bind fun x h1 => (b σ h1).bind fun y h2 => f x y h2
theorem le_op {r : R2} {f : F2} {a b : AE} (hf : OpA K r f) {τ : St} {H : Hp} {Q : VK} (o : LE K W (aOp f a b) τ H Q) : tOp r (LE K W a) (LE K W b) τ H Q := by
  obtain ⟨ρ, h, σ, R, S, o⟩ := o
  refine ⟨ρ, h, σ, R, S, (Out.bind (R := RV K) o).mono fun x H1 ⟨ρ1, v, h1, e1, R1, q1, o1⟩ => ?_⟩
  refine ⟨ρ1, h1, σ, R1, S.mono e1, (Out.bind (R := RV K) o1).mono fun y H2 ⟨ρ2, u, h2, e2, R2, q2, o2⟩ => ?_⟩
  exact hf ρ2 h2 H2 τ W x y v u Q R2 (q1.mono e2) q2 o2
theorem je_op {op : Operator} {f : F2} {a b : Expr} {ma mb : AE} {pos : Pos} (ho : JOp X (binaryOp op) f) (ha : JE X W a ma) (hb : JE X W b mb) : JE X W (.BinOp a op b pos) (aOp f ma mb) := by
  obtain ⟨r, h1, h2⟩ := ho.ex
  exact ⟨PEmono (pe_op h1 ha.pe hb.pe) fun τ H Q o => le_op h2 o⟩
/-- a comparison -/
theorem je_cmp {op : CmpOp} {f : F2} {a b : Expr} {ma mb : AE} {pos : Pos} (ho : JOp X (compareOp op) f) (ha : JE X W a ma) (hb : JE X W b mb) (hm : behindInMarks op b = false := by first | exact nomark _ | with_unfolding_all rfl) : JE X W (.Compare a [op] [b] pos) (aOp f ma mb) := by
  obtain ⟨r, h1, h2⟩ := ho.ex
  exact ⟨PEmono (pe_cmpR h1 ha.pe hb.pe hm) fun τ H Q o => le_op h2 o⟩
/-- truth that is a bool -/
def aB (m : AE) : AT := fun σ h => (m σ h).bind fun x h1 => match x with
  | .bl b => .ok b h1
  | _ => .stuck
theorem le_b {m : AE} {τ : St} {H : Hp} {Q : Bool → Hp → Prop} (o : LT K W (aB m) τ H Q) : LE K W m τ H (fun x H' => ∃ k, x = .bl k ∧ Q k H') := by
  obtain ⟨ρ, h, σ, R, S, o⟩ := o
  refine ⟨ρ, h, σ, R, S, (Out.bind (R := RV K) o).mono fun x H1 ⟨ρ1, v, h1, e1, R1, q1, o1⟩ => ?_⟩
  cases v with
  | bl b => exact ⟨b, q1.bl_inv, Out.done o1 R1 rfl⟩
  | _ => exact o1.elim
theorem jt_cmp {op : CmpOp} {f : F2} {a b : Expr} {ma mb : AE} {pos : Pos} (ho : JOp X (compareOp op) f) (ha : JE X W a ma) (hb : JE X W b mb) (hm : behindInMarks op b = false := by first | exact nomark _ | with_unfolding_all rfl) : JT X W (.Compare a [op] [b] pos) (aB (aOp f ma mb)) := by
  obtain ⟨r, h1, h2⟩ := ho.ex
  refine ⟨PTmono (pt_cmpR h1 ha.pe hb.pe hm) fun τ H Q o => ?_⟩
  have q := le_b o
  obtain ⟨ρ, h, σ, R, S, o'⟩ := q
  exact le_op h2 ⟨ρ, h, σ, R, S, o'⟩
/-- a < b < c -/
def aChain (f g : F2) (a b c : AE) : AE := fun σ h => (a σ h).bind fun x h1 => (b σ h1).bind fun y h2 => (f x y h2).bind fun z h3 => match z with
  | .bl true => (c σ h3).bind fun w h4 => g y w h4
  | .bl false => .ok (.bl false) h3
  | _ => .stuck
theorem le_chain {r r' : R2} {f g : F2} {a b c : AE} (hf : OpA K r f) (hg : OpA K r' g) {τ : St} {H : Hp} {Q : VK} (o : LE K W (aChain f g a b c) τ H Q) : tChain r r' (LE K W a) (LE K W b) (LE K W c) τ H Q := by
  obtain ⟨ρ, h, σ, R, S, o⟩ := o
  refine ⟨ρ, h, σ, R, S, (Out.bind (R := RV K) o).mono fun x H1 ⟨ρ1, v, h1, e1, R1, q1, o1⟩ => ?_⟩
  refine ⟨ρ1, h1, σ, R1, S.mono e1, (Out.bind (R := RV K) o1).mono fun y H2 ⟨ρ2, u, h2, e2, R2, q2, o2⟩ => ?_⟩
  refine hf ρ2 h2 H2 τ W x y v u _ R2 (q1.mono e2) q2 ((Out.bind (R := RV K) o2).mono fun z H3 ⟨ρ3, w, h3, e3, R3, q3, o3⟩ => ?_)
  cases w with
  | bl k =>
    refine ⟨k, q3.bl_inv, ?_⟩
    cases k with
    | true =>
      rw [if_pos rfl]
      refine ⟨ρ3, h3, σ, R3, ((S.mono e1).mono e2).mono e3, (Out.bind (R := RV K) o3).mono fun w H4 ⟨ρ4, t, h4, e4, R4, q4, o4⟩ => ?_⟩
      exact hg ρ4 h4 H4 τ W y w u t Q R4 ((q2.mono e3).mono e4) q4 o4
    | false =>
      rw [if_neg Bool.false_ne_true]
      exact Out.done o3 R3 (.bl false)
  | _ => exact o3.elim
theorem je_chain {op op' : CmpOp} {f g : F2} {a b c : Expr} {ma mb mc : AE} {pos : Pos} (ho : JOp X (compareOp op) f) (ho' : JOp X (compareOp op') g) (ha : JE X W a ma) (hb : JE X W b mb) (hc : JE X W c mc)
    (hm : lastMarks [op, op'] [b, c] = false := by rfl) : JE X W (.Compare a [op, op'] [b, c] pos) (aChain f g ma mb mc) := by
  obtain ⟨r, h1, h2⟩ := ho.ex
  obtain ⟨r', h1', h2'⟩ := ho'.ex
  exact ⟨PEmono (pe_chain h1 h1' ha.pe hb.pe hc.pe hm) fun τ H Q o => le_chain h2 h2' o⟩
theorem jt_chain {op op' : CmpOp} {f g : F2} {a b c : Expr} {ma mb mc : AE} {pos : Pos} (ho : JOp X (compareOp op) f) (ho' : JOp X (compareOp op') g) (ha : JE X W a ma) (hb : JE X W b mb) (hc : JE X W c mc)
    (hm : lastMarks [op, op'] [b, c] = false := by rfl) : JT X W (.Compare a [op, op'] [b, c] pos) (aB (aChain f g ma mb mc)) := by
  obtain ⟨r, h1, h2⟩ := ho.ex
  obtain ⟨r', h1', h2'⟩ := ho'.ex
  refine ⟨PTmono (pt_chain h1 h1' ha.pe hb.pe hc.pe hm) fun τ H Q o => ?_⟩
  exact le_chain h2 h2' (le_b o)
/-! ### what a sequence holds -/
def lstOf : PV → AH → Option (List PV)
  | .lst xs, _ => some xs
  | .ro xs, _ => some xs
  | .loc n, h => match h[n]? with
    | some (.lst xs) => some xs
    | _ => none
  | _, _ => none
def seqOf : PV → AH → Option (List PV)
  | .tup xs, _ => some xs
  | v, h => lstOf v h
theorem lst_of {ρ : List Addr} {h : AH} {H : Hp} {v : PV} {x : V} {xs : List PV} (R : Rep K ρ h H) (r : RV K ρ H v x) (e : lstOf v h = some xs) : ∃ p vs, x = .ref p ∧ SqL K.fr H p vs ∧ RVs K ρ H xs vs := by
  cases v with
  | lst ys => cases e; obtain ⟨p, vs, rfl, f, q⟩ := r.lst_inv; exact ⟨p, vs, rfl, f.sq, q⟩
  | ro ys => cases e; obtain ⟨p, vs, rfl, f, q⟩ := r.ro_inv; exact ⟨p, vs, rfl, f.sq, q⟩
  | loc n =>
    obtain ⟨p, rfl, ep⟩ := r.loc_inv
    unfold lstOf at e
    dsimp only at e
    split at e
    · rename_i ys eh
      cases e
      obtain ⟨vs, e1, q⟩ := R.obj n p _ ep eh
      exact ⟨p, vs, rfl, .inl (.inl e1), q⟩
    · cases e
  | _ => cases e
/-- a list that is no handed-in one -/
def ownOf : PV → AH → Option (List PV)
  | .ro _, _ => none
  | v, h => lstOf v h
theorem own_of {ρ : List Addr} {h : AH} {H : Hp} {v : PV} {x : V} {xs : List PV} (R : Rep K ρ h H) (r : RV K ρ H v x) (e : ownOf v h = some xs) : ∃ p vs, x = .ref p ∧ H p = some (.lst vs) ∧ RVs K ρ H xs vs := by
  cases v with
  | lst ys => cases e; obtain ⟨p, vs, rfl, f, q⟩ := r.lst_inv; exact ⟨p, vs, rfl, f.1, q⟩
  | ro ys => cases e
  | loc n =>
    obtain ⟨p, rfl, ep⟩ := r.loc_inv
    unfold ownOf lstOf at e
    dsimp only at e
    split at e
    · rename_i ys eh
      cases e
      obtain ⟨vs, e1, q⟩ := R.obj n p _ ep eh
      exact ⟨p, vs, rfl, e1, q⟩
    · cases e
  | _ => cases e
/-- a new list at the end of the heap -/
def new (o : AO) (h : AH) : Res PV := .ok (.loc h.length) (h ++ [o])
theorem new_lst {ρ : List Addr} {h : AH} {H : Hp} {τ : St} {Q : VK} {xs : List PV} {vs : List V} (R : Rep K ρ h H) (r : RVs K ρ H xs vs) (o : OutE K W ρ τ H (new (.lst xs) h) Q) : ∀ p, H p = none → Q (.ref p) (upd H p (.lst vs)) := fun p hp => by
  refine o (ρ ++ [p]) (upd H p (.lst vs)) (.ref p) (.push hp) (R.push hp ⟨vs, upd_same, r.mono (.push hp)⟩) (.loc ?_)
  rw [← R.len]; simp
theorem new_tup {ρ : List Addr} {h : AH} {H : Hp} {τ : St} {Q : VK} {xs : List PV} {vs : List V} (R : Rep K ρ h H) (r : RVs K ρ H xs vs) (o : OutE K W ρ τ H (.ok (.tup xs) h) Q) : ∀ p, H p = none → Q (.ref p) (upd H p (.tup vs)) := fun p hp =>
  o ρ (upd H p (.tup vs)) (.ref p) (.fresh hp) (R.fresh hp) (.tup vs (.inl ⟨.inl upd_same, R.notin hp⟩) r.len fun i x v e1 e2 => (r.at_ i x v e1 e2).mono (.fresh hp))
end
end AB

/-! AB3: the operators one by one -/
namespace AB
open PySem PySem.Spec
open PyProof.Rows hiding St
open L2
section
variable {X : Cx} {W : WX} {K : KW}
/-! ### ints alone -/
def fI (C : Int → Int → Bool) (g : Int → Int → PV) : F2
  | .int i, .int j, h => if C i j = true then .ok (g i j) h else .stuck
  | _, _, _ => .stuck
def fI0 (g : Int → Int → PV) : F2
  | .int i, .int j, h => .ok (g i j) h
  | _, _, _ => .stuck
theorem opa_I {C : Int → Int → Bool} {C' : Int → Int → Prop} {g : Int → Int → PV} {g' : Int → Int → V} (hC : ∀ i j, C i j = true → C' i j) (hg : ∀ ρ H i j, RV K ρ H (g i j) (g' i j)) : OpA K (rI C' g') (fI C g) := by
  intro ρ h H τ W x y v u Q R r1 r2 o
  cases v with
  | int i =>
    cases u with
    | int j =>
      have e1 := r1.int_inv; have e2 := r2.int_inv; subst e1; subst e2
      dsimp only [fI] at o
      by_cases c : C i j = true
      · rw [if_pos c] at o
        exact ⟨i, j, rfl, rfl, hC i j c, Out.done o R (hg ρ H i j)⟩
      · rw [if_neg c] at o; exact o.elim
    | _ => exact o.elim
  | _ => exact o.elim
theorem opa_I0 {g : Int → Int → PV} {g' : Int → Int → V} (hg : ∀ ρ H i j, RV K ρ H (g i j) (g' i j)) : OpA K (rI0 g') (fI0 g) := by
  intro ρ h H τ W x y v u Q R r1 r2 o
  cases v with
  | int i =>
    cases u with
    | int j =>
      have e1 := r1.int_inv; have e2 := r2.int_inv; subst e1; subst e2
      exact ⟨i, j, rfl, rfl, Out.done o R (hg ρ H i j)⟩
    | _ => exact o.elim
  | _ => exact o.elim
theorem jop {g : Value → Value → Sem Value} {r : R2} {f : F2} (a : OpR X g r) (b : OpA (cxKW X) r f) : JOp X g f := ⟨_, a, b⟩
def bMul (i j : Int) : Bool := (decide (-(2 ^ 64) < i) && decide (i < 2 ^ 64)) || (decide (-(2 ^ 64) < j) && decide (j < 2 ^ 64))
def bDiv (_ j : Int) : Bool := decide (0 < j) && decide (j < 1073741824)
def bPos (_ j : Int) : Bool := decide (0 < j)
def bPow (i j : Int) : Bool := decide (0 ≤ j) && decide (j ≤ 1000000) && decide (i.natAbs < 2 ^ 64)
def fSub : F2 := fI0 fun i j => .int (i - j)
def fMod : F2 := fI bPos fun i j => .int (i % j)
def fFdiv : F2 := fI bDiv fun i j => .int (i / j)
def fPow : F2 := fI bPow fun i j => .int (i ^ j.toNat)
def fShl : F2 := fI bPow fun i j => .int (i * 2 ^ j.toNat)
def fGt : F2 := fI0 fun i j => .bl (decide (j < i))
def fGe : F2 := fI0 fun i j => .bl (decide (j ≤ i))
def fLt : F2 := fI0 fun i j => .bl (decide (i < j))
def fLe : F2 := fI0 fun i j => .bl (decide (i ≤ j))
theorem j_sub : JOp X (binaryOp .Sub) fSub := jop op_sub (opa_I0 fun _ _ _ _ => .int _)
theorem j_mod : JOp X (binaryOp .Mod) fMod := jop op_mod (opa_I (fun i j c => by simpa [bPos] using c) fun _ _ _ _ => .int _)
theorem j_fdiv : JOp X (binaryOp .FloorDiv) fFdiv := jop op_fdiv (opa_I (fun i j c => by simpa [bDiv, CDiv] using c) fun _ _ _ _ => .int _)
theorem j_pow : JOp X (binaryOp .Pow) fPow := jop op_pow (opa_I (fun i j c => by simpa [bPow, CPow, and_assoc] using c) fun _ _ _ _ => .int _)
theorem j_shl : JOp X (binaryOp .LShift) fShl := jop op_shl (opa_I (fun i j c => by simpa [bPow, CPow, and_assoc] using c) fun _ _ _ _ => .int _)
theorem j_gt : JOp X (compareOp .Gt) fGt := jop op_gt (opa_I0 fun _ _ _ _ => .bl _)
theorem j_ge : JOp X (compareOp .GtE) fGe := jop op_ge (opa_I0 fun _ _ _ _ => .bl _)
theorem j_lt : JOp X (compareOp .Lt) fLt := jop op_lt (opa_I0 fun _ _ _ _ => .bl _)
theorem j_le : JOp X (compareOp .LtE) fLe := jop op_le (opa_I0 fun _ _ _ _ => .bl _)
/-! ### + -/
def fAdd : F2
  | .int i, .int j, h => .ok (.int (i + j)) h
  | .str x, .str y, h => if x.length + y.length ≤ sizeLine then .ok (.str (x ++ y)) h else .stuck
  | .tup xs, .tup ys, h => if xs.length + ys.length ≤ sizeLine then .ok (.tup (xs ++ ys)) h else .stuck
  | a, b, h => match ownOf a h, ownOf b h with
    | some xs, some ys => if xs.length + ys.length ≤ sizeLine then new (.lst (xs ++ ys)) h else .stuck
    | _, _ => .stuck
theorem fAdd_lst {a b : PV} {h : AH} {τ : St} {ρ : List Addr} {H : Hp} {Q : VK} {x y : V} (R : Rep K ρ h H) (r1 : RV K ρ H a x) (r2 : RV K ρ H b y)
    (o : OutE K W ρ τ H (match ownOf a h, ownOf b h with
      | some xs, some ys => if xs.length + ys.length ≤ sizeLine then new (.lst (xs ++ ys)) h else .stuck
      | _, _ => .stuck) Q) : rCat x y H Q := by
  split at o
  · rename_i xs ys e1 e2
    split at o
    · rename_i hz
      obtain ⟨p, vs, rfl, h1, q1⟩ := own_of R r1 e1
      obtain ⟨p', us, rfl, h2, q2⟩ := own_of R r2 e2
      refine ⟨p, p', vs, us, rfl, rfl, h1, h2, by rw [q1.len, q2.len]; exact hz, new_lst R (q1.append q2) o⟩
    · exact o.elim
  · exact o.elim
theorem j_add : JOp X (binaryOp .Add) fAdd := by
  refine jop (OpR.or op_add (OpR.or op_add_str (OpR.or op_catA op_cat))) ?_
  intro ρ h H τ W x y v u Q R r1 r2 o
  have lst : ∀ (a b : PV), RV (cxKW X) ρ H a x → RV (cxKW X) ρ H b y → OutE (cxKW X) W ρ τ H (match ownOf a h, ownOf b h with
      | some xs, some ys => if xs.length + ys.length ≤ sizeLine then new (.lst (xs ++ ys)) h else .stuck
      | _, _ => .stuck) Q → rCat x y H Q := fun a b q1 q2 o => fAdd_lst R q1 q2 o
  cases v with
  | int i =>
    cases u with
    | int j =>
      have e1 := r1.int_inv; have e2 := r2.int_inv; subst e1; subst e2
      exact .inl ⟨i, j, rfl, rfl, Out.done o R (.int _)⟩
    | _ => exact o.elim
  | str i =>
    cases u with
    | str j =>
      have e1 := r1.str_inv; have e2 := r2.str_inv; subst e1; subst e2
      unfold fAdd at o
      dsimp only at o
      split at o
      · rename_i hz
        exact .inr (.inl ⟨i, j, rfl, rfl, hz, Out.done o R (.str _)⟩)
      · exact o.elim
    | _ => exact o.elim
  | tup xs =>
    cases u with
    | tup ys =>
      obtain ⟨p, vs, rfl, f1, q1⟩ := r1.tup_inv
      obtain ⟨p', us, rfl, f2, q2⟩ := r2.tup_inv
      unfold fAdd at o
      dsimp only at o
      split at o
      · rename_i hz
        refine .inr (.inr (.inl ⟨p, p', vs, us, rfl, rfl, f1.sq, f2.sq, by rw [q1.len, q2.len]; exact hz, fun e => ?_, fun _ e => ?_, fun _ _ => ?_⟩))
        · have ex : xs = [] := by
            have := q1.len
            rw [e] at this
            exact List.eq_nil_of_length_eq_zero (by simpa using this.symm)
          subst ex
          exact Out.done o R r2
        · have ex : ys = [] := by
            have := q2.len
            rw [e] at this
            exact List.eq_nil_of_length_eq_zero (by simpa using this.symm)
          subst ex
          rw [List.append_nil] at o
          exact Out.done o R r1
        · exact new_tup R (q1.append q2) o
      · exact o.elim
    | _ => exact o.elim
  | lst xs => refine .inr (.inr (.inr (lst (.lst xs) u r1 r2 ?_))); cases u <;> exact o
  | loc n => refine .inr (.inr (.inr (lst (.loc n) u r1 r2 ?_))); cases u <;> exact o
  | _ => cases u <;> exact o.elim
/-! ### * -/
def fMul : F2
  | .int i, .int j, h => if bMul i j = true then .ok (.int (i * j)) h else .stuck
  | .tup xs, .int k, h => if -1000 ≤ k ∧ k ≤ 1000 ∧ xs.length ≤ 1000 then .ok (.tup (List.replicate k.toNat xs).flatten) h else .stuck
  | a, .int k, h => match ownOf a h with
    | some xs => if -(2 ^ 63) ≤ k ∧ k < 2 ^ 63 ∧ xs.length * k.toNat ≤ sizeLine then new (.lst (List.replicate k.toNat xs).flatten) h else .stuck
    | none => .stuck
  | _, _, _ => .stuck
theorem RVs.rep {ρ : List Addr} {H : Hp} {xs : List PV} {vs : List V} (r : RVs K ρ H xs vs) : ∀ k : Nat, RVs K ρ H (List.replicate k xs).flatten (List.replicate k vs).flatten
  | 0 => .nil
  | k + 1 => by
    rw [List.replicate_succ, List.replicate_succ, List.flatten_cons, List.flatten_cons]
    exact r.append (RVs.rep r k)
theorem j_mul : JOp X (binaryOp .Mult) fMul := by
  refine jop (OpR.or op_mul (OpR.or (OpR.or op_repT op_repT1) op_rep)) ?_
  intro ρ h H τ W x y v u Q R r1 r2 o
  have lst : ∀ (a : PV) (k : Int), RV (cxKW X) ρ H a x → y = .int k → OutE (cxKW X) W ρ τ H (match ownOf a h with
      | some xs => if -(2 ^ 63) ≤ k ∧ k < 2 ^ 63 ∧ xs.length * k.toNat ≤ sizeLine then new (.lst (List.replicate k.toNat xs).flatten) h else .stuck
      | none => .stuck) Q → rRep x y H Q := fun a k q1 ey o => by
    subst ey
    split at o
    · rename_i xs e1
      split at o
      · rename_i hz
        obtain ⟨p, vs, rfl, h1, q1⟩ := own_of R q1 e1
        exact ⟨p, k, vs, rfl, rfl, h1, hz.1, hz.2.1, by rw [q1.len]; exact hz.2.2, new_lst R (q1.rep _) o⟩
      · exact o.elim
    · exact o.elim
  cases v with
  | int i =>
    cases u with
    | int j =>
      have e1 := r1.int_inv; have e2 := r2.int_inv; subst e1; subst e2
      unfold fMul at o
      dsimp only at o
      split at o
      · rename_i c
        refine .inl ⟨i, j, rfl, rfl, by simpa [bMul, CMul] using c, Out.done o R (.int _)⟩
      · exact o.elim
    | _ => exact o.elim
  | tup xs =>
    cases u with
    | int k =>
      have e2 := r2.int_inv; subst e2
      obtain ⟨p, vs, rfl, f1, q1⟩ := r1.tup_inv
      unfold fMul at o
      dsimp only at o
      split at o
      · rename_i hz
        by_cases e1 : vs = [] ∨ k = 1
        · have e : (List.replicate k.toNat xs).flatten = xs := by
            rcases e1 with z | z
            · have : xs = [] := by
                have := q1.len
                rw [z] at this
                exact List.eq_nil_of_length_eq_zero (by simpa using this.symm)
              subst this; simp
            · subst z; simp
          rw [e] at o
          exact .inr (.inl (.inr ⟨p, k, vs, rfl, rfl, f1.sq, by omega, by omega, .inl ⟨e1, Out.done o R (.tup vs f1 q1.len q1.at_)⟩⟩))
        · have ev : vs ≠ [] := fun z => e1 (.inl z)
          by_cases e2 : k ≤ 0
          · have e : k.toNat = 0 := by omega
            rw [e] at o
            exact .inr (.inl (.inr ⟨p, k, vs, rfl, rfl, f1.sq, by omega, by omega, .inr ⟨ev, e2, new_tup R .nil o⟩⟩))
          · have e3 : k ≠ 1 := fun z => e1 (.inr z)
            exact .inr (.inl (.inl ⟨p, k, vs, rfl, rfl, f1.sq, ev, by omega, hz.2.1, by rw [q1.len]; exact hz.2.2, new_tup R (q1.rep _) o⟩))
      · exact o.elim
    | _ => exact o.elim
  | lst xs =>
    cases u with
    | int k => exact .inr (.inr (lst (.lst xs) k r1 r2.int_inv o))
    | _ => exact o.elim
  | loc n =>
    cases u with
    | int k => exact .inr (.inr (lst (.loc n) k r1 r2.int_inv o))
    | _ => exact o.elim
  | _ => cases u <;> exact o.elim
/-! ### ==, is None, in -/
def flat : PV → Option V
  | .non => some .non
  | .bl b => some (.bl b)
  | .int i => some (.int i)
  | .str x => some (.str x)
  | _ => none
theorem flat_of {ρ : List Addr} {H : Hp} {v : PV} {x y : V} (e : flat v = some y) (r : RV K ρ H v x) : x = y ∧ flatV x = true := by
  cases v <;> simp [flat] at e
  · subst e; exact ⟨r.non_inv, by rw [r.non_inv]; rfl⟩
  · subst e; exact ⟨r.bl_inv, by rw [r.bl_inv]; rfl⟩
  · subst e; exact ⟨r.int_inv, by rw [r.int_inv]; rfl⟩
  · subst e; exact ⟨r.str_inv, by rw [r.str_inv]; rfl⟩
def fEq : F2 := fun v u h => match flat v, flat u with
  | some x, some y => if scal x y = true then .ok (.bl (decide (x = y))) h else .stuck
  | _, _ => .stuck
def fNe : F2 := fun v u h => match flat v, flat u with
  | some x, some y => if scal x y = true then .ok (.bl (!decide (x = y))) h else .stuck
  | _, _ => .stuck
theorem j_eq : JOp X (compareOp .Eq) fEq := jop op_eq fun ρ h H τ W x y v u Q R r1 r2 o => by
  unfold fEq at o
  split at o
  · rename_i a b e1 e2
    obtain ⟨rfl, _⟩ := flat_of e1 r1
    obtain ⟨rfl, _⟩ := flat_of e2 r2
    split at o
    · rename_i c; exact ⟨c, Out.done o R (.bl _)⟩
    · exact o.elim
  · exact o.elim
theorem j_ne : JOp X (compareOp .NotEq) fNe := jop op_ne fun ρ h H τ W x y v u Q R r1 r2 o => by
  unfold fNe at o
  split at o
  · rename_i a b e1 e2
    obtain ⟨rfl, _⟩ := flat_of e1 r1
    obtain ⟨rfl, _⟩ := flat_of e2 r2
    split at o
    · rename_i c; exact ⟨c, Out.done o R (.bl _)⟩
    · exact o.elim
  · exact o.elim
def isNon : PV → Option Bool
  | .non => some true
  | .raw _ => none
  | _ => some false
theorem isNon_of {ρ : List Addr} {H : Hp} {v : PV} {x : V} {b : Bool} (e : isNon v = some b) (r : RV K ρ H v x) : decide (x = V.non) = b := by
  cases v <;> simp [isNon] at e <;> subst e
  · rw [r.non_inv]; rfl
  · rw [r.bl_inv]; rfl
  · rw [r.int_inv]; rfl
  · rw [r.str_inv]; rfl
  · obtain ⟨p, vs, rfl, _⟩ := r.tup_inv; rfl
  · obtain ⟨p, vs, rfl, _⟩ := r.lst_inv; rfl
  · obtain ⟨p, vs, rfl, _⟩ := r.ro_inv; rfl
  · obtain ⟨p, rfl, _⟩ := r.loc_inv; rfl
def fIsN : F2
  | v, .non, h => match isNon v with
    | some b => .ok (.bl b) h
    | none => .stuck
  | _, _, _ => .stuck
def fNotN : F2
  | v, .non, h => match isNon v with
    | some b => .ok (.bl (!b)) h
    | none => .stuck
  | _, _, _ => .stuck
theorem j_isN : JOp X (compareOp .Is) fIsN := jop op_isN fun ρ h H τ W x y v u Q R r1 r2 o => by
  cases u with
  | non =>
    dsimp only [fIsN] at o
    split at o
    · rename_i b e
      refine ⟨r2.non_inv, ?_⟩
      rw [isNon_of e r1]
      exact Out.done o R (.bl _)
    · exact o.elim
  | _ => cases v <;> exact o.elim
theorem j_notN : JOp X (compareOp .IsNot) fNotN := jop op_notN fun ρ h H τ W x y v u Q R r1 r2 o => by
  cases u with
  | non =>
    dsimp only [fNotN] at o
    split at o
    · rename_i b e
      refine ⟨r2.non_inv, ?_⟩
      rw [isNon_of e r1]
      exact Out.done o R (.bl _)
    · exact o.elim
  | _ => cases v <;> exact o.elim
def flats : List PV → Option (List V)
  | [] => some []
  | v :: r => match flat v, flats r with
    | some x, some xs => some (x :: xs)
    | _, _ => none
theorem flats_of {ρ : List Addr} {H : Hp} : ∀ {xs : List PV} {vs ys : List V}, flats xs = some ys → RVs K ρ H xs vs → vs = ys ∧ vs.all flatV = true
  | [], vs, ys, e, r => by
    cases e; rw [r.nil_inv]; exact ⟨rfl, rfl⟩
  | x :: xs, vs, ys, e, r => by
    unfold flats at e
    split at e
    · rename_i y ys' e1 e2
      cases e
      obtain ⟨v, vs', rfl, q, s⟩ := r.cons_inv
      obtain ⟨rfl, f1⟩ := flat_of e1 q
      obtain ⟨rfl, f2⟩ := flats_of e2 s
      exact ⟨rfl, by simp [f1, f2]⟩
    · cases e
theorem seq_of {ρ : List Addr} {h : AH} {H : Hp} {v : PV} {x : V} {xs : List PV} (R : Rep K ρ h H) (r : RV K ρ H v x) (e : seqOf v h = some xs) : ∃ p vs, x = .ref p ∧ (SqL K.fr H p vs ∨ SqT K.fr H p vs) ∧ RVs K ρ H xs vs := by
  cases v with
  | tup ys => cases e; obtain ⟨p, vs, rfl, f, q⟩ := r.tup_inv; exact ⟨p, vs, rfl, .inr f.sq, q⟩
  | lst ys => obtain ⟨p, vs, e1, f, q⟩ := lst_of (v := .lst ys) R r e; exact ⟨p, vs, e1, .inl f, q⟩
  | ro ys => obtain ⟨p, vs, e1, f, q⟩ := lst_of (v := .ro ys) R r e; exact ⟨p, vs, e1, .inl f, q⟩
  | loc n => obtain ⟨p, vs, e1, f, q⟩ := lst_of (v := .loc n) R r e; exact ⟨p, vs, e1, .inl f, q⟩
  | _ => cases e
/-- flat in a sequence of flat ones -/
def fIn : F2 := fun v u h => match flat v, seqOf u h with
  | some x, some ys => match flats ys with
    | some zs => .ok (.bl (inV x zs)) h
    | none => .stuck
  | _, _ => .stuck
def fNin : F2 := fun v u h => match flat v, seqOf u h with
  | some x, some ys => match flats ys with
    | some zs => .ok (.bl (!inV x zs)) h
    | none => .stuck
  | _, _ => .stuck
theorem j_in : JOp X (compareOp .In) fIn := jop op_in_seq fun ρ h H τ W x y v u Q R r1 r2 o => by
  unfold fIn at o
  split at o
  · rename_i a ys e1 e2
    split at o
    · rename_i zs e3
      obtain ⟨rfl, f1⟩ := flat_of e1 r1
      obtain ⟨p, vs, rfl, s, q⟩ := seq_of R r2 e2
      obtain ⟨rfl, f2⟩ := flats_of e3 q
      exact ⟨p, vs, rfl, s, f1, f2, Out.done o R (.bl _)⟩
    · exact o.elim
  · exact o.elim
theorem j_nin : JOp X (compareOp .NotIn) fNin := jop op_notIn_seq fun ρ h H τ W x y v u Q R r1 r2 o => by
  unfold fNin at o
  split at o
  · rename_i a ys e1 e2
    split at o
    · rename_i zs e3
      obtain ⟨rfl, f1⟩ := flat_of e1 r1
      obtain ⟨p, vs, rfl, s, q⟩ := seq_of R r2 e2
      obtain ⟨rfl, f2⟩ := flats_of e3 q
      exact ⟨p, vs, rfl, s, f1, f2, Out.done o R (.bl _)⟩
    · exact o.elim
  · exact o.elim
/-! ### one place -/
abbrev F1 := PV → AH → Res PV
def aUn (f : F1) (a : AE) : AE := fun σ h => (a σ h).bind fun x h1 => f x h1
def fNeg : F1
  | .int i, h => .ok (.int (-i)) h
  | _, _ => .stuck
theorem je_neg {a : Expr} {ma : AE} {pos : Pos} (ha : JE X W a ma) : JE X W (.UnaryOp .USub a pos) (aUn fNeg ma) :=
  ⟨PEmono (pe_un un_neg ha.pe) fun τ H Q ⟨ρ, h, σ, R, S, o⟩ => ⟨ρ, h, σ, R, S, (Out.bind (R := RV (cxKW X)) o).mono fun x H1 ⟨ρ1, v, h1, e1, R1, q1, o1⟩ => by
    cases v with
    | int i => exact ⟨i, q1.int_inv, Out.done o1 R1 (.int _)⟩
    | _ => exact o1.elim⟩⟩
/-! ### and, or, not, if -/
def aAnd (a b : AE) : AE := fun σ h => (a σ h).bind fun x h1 => match x with
  | .bl true => b σ h1
  | .bl false => .ok (.bl false) h1
  | _ => .stuck
def aOr (a b : AE) : AE := fun σ h => (a σ h).bind fun x h1 => match x with
  | .bl true => .ok (.bl true) h1
  | .bl false => b σ h1
  | _ => .stuck
def fNot : F1
  | .bl b, h => .ok (.bl (!b)) h
  | _, _ => .stuck
theorem je_one {op : BoolOp} {a : Expr} {ma : AE} {pos : Pos} (ha : JE X W a ma) : JE X W (.BoolOp op [a] pos) ma := ⟨pe_one ha.pe⟩
theorem je_and {a b : Expr} {rest : List Expr} {ma mb : AE} {pos : Pos} (ha : JE X W a ma) (hb : JE X W (.BoolOp .And (b :: rest) pos) mb) : JE X W (.BoolOp .And (a :: b :: rest) pos) (aAnd ma mb) :=
  ⟨PEmono (pe_and ha.pe hb.pe) fun τ H Q ⟨ρ, h, σ, R, S, o⟩ => ⟨ρ, h, σ, R, S, (Out.bind (R := RV (cxKW X)) o).mono fun x H1 ⟨ρ1, v, h1, e1, R1, q1, o1⟩ => by
    cases v with
    | bl k =>
      refine ⟨k, q1.bl_inv, ?_⟩
      cases k with
      | true => rw [if_pos rfl]; exact ⟨ρ1, h1, σ, R1, S.mono e1, o1⟩
      | false => rw [if_neg Bool.false_ne_true]; exact Out.done o1 R1 (.bl false)
    | _ => exact o1.elim⟩⟩
theorem je_or {a b : Expr} {rest : List Expr} {ma mb : AE} {pos : Pos} (ha : JE X W a ma) (hb : JE X W (.BoolOp .Or (b :: rest) pos) mb) : JE X W (.BoolOp .Or (a :: b :: rest) pos) (aOr ma mb) :=
  ⟨PEmono (pe_or ha.pe hb.pe) fun τ H Q ⟨ρ, h, σ, R, S, o⟩ => ⟨ρ, h, σ, R, S, (Out.bind (R := RV (cxKW X)) o).mono fun x H1 ⟨ρ1, v, h1, e1, R1, q1, o1⟩ => by
    cases v with
    | bl k =>
      refine ⟨k, q1.bl_inv, ?_⟩
      cases k with
      | false => rw [if_neg Bool.false_ne_true]; exact ⟨ρ1, h1, σ, R1, S.mono e1, o1⟩
      | true => rw [if_pos rfl]; exact Out.done o1 R1 (.bl true)
    | _ => exact o1.elim⟩⟩
theorem je_not {a : Expr} {ma : AE} {pos : Pos} (ha : JE X W a ma) : JE X W (.UnaryOp .Not a pos) (aUn fNot ma) :=
  ⟨PEmono (pe_not ha.pe) fun τ H Q ⟨ρ, h, σ, R, S, o⟩ => ⟨ρ, h, σ, R, S, (Out.bind (R := RV (cxKW X)) o).mono fun x H1 ⟨ρ1, v, h1, e1, R1, q1, o1⟩ => by
    cases v with
    | bl k => exact ⟨k, q1.bl_inv, Out.done o1 R1 (.bl _)⟩
    | _ => exact o1.elim⟩⟩
def tAnd (a b : AT) : AT := fun σ h => (a σ h).bind fun x h1 => if x = true then b σ h1 else .ok false h1
def tOr (a b : AT) : AT := fun σ h => (a σ h).bind fun x h1 => if x = true then .ok true h1 else b σ h1
def tNot (a : AT) : AT := fun σ h => (a σ h).bind fun x h1 => .ok (!x) h1
structure JW (X : Cx) (W : WX) (e : Expr) (m : AT) : Prop where
  pw : PW X e (LT (cxKW X) W m)
theorem jt_bool {e : Expr} {m : AT} (h : JW X W e m) : JT X W e m := ⟨h.pw.pt⟩
theorem jw_and1 {a : Expr} {ma : AT} {pos : Pos} (ha : JT X W a ma) : JW X W (.BoolOp .And [a] pos) ma := ⟨pw_and1 ha.pt⟩
theorem jw_or1 {a : Expr} {ma : AT} {pos : Pos} (ha : JT X W a ma) : JW X W (.BoolOp .Or [a] pos) ma := ⟨pw_or1 ha.pt⟩
theorem jw_and {a b : Expr} {rest : List Expr} {ma mb : AT} {pos : Pos} (ha : JT X W a ma) (hb : JW X W (.BoolOp .And (b :: rest) pos) mb) : JW X W (.BoolOp .And (a :: b :: rest) pos) (tAnd ma mb) :=
  ⟨PWmono (pw_and ha.pt hb.pw) fun τ H Q ⟨ρ, h, σ, R, S, o⟩ => ⟨ρ, h, σ, R, S, (Out.bind (R := fun _ _ (a b : Bool) => a = b) o).mono fun x H1 ⟨ρ1, v, h1, e1, R1, q1, o1⟩ => by
    subst q1
    cases v with
    | true => rw [if_pos rfl] at o1 ⊢; exact ⟨ρ1, h1, σ, R1, S.mono e1, o1⟩
    | false => rw [if_neg Bool.false_ne_true] at o1 ⊢; exact Out.done o1 R1 rfl⟩⟩
theorem jw_or {a b : Expr} {rest : List Expr} {ma mb : AT} {pos : Pos} (ha : JT X W a ma) (hb : JW X W (.BoolOp .Or (b :: rest) pos) mb) : JW X W (.BoolOp .Or (a :: b :: rest) pos) (tOr ma mb) :=
  ⟨PWmono (pw_or ha.pt hb.pw) fun τ H Q ⟨ρ, h, σ, R, S, o⟩ => ⟨ρ, h, σ, R, S, (Out.bind (R := fun _ _ (a b : Bool) => a = b) o).mono fun x H1 ⟨ρ1, v, h1, e1, R1, q1, o1⟩ => by
    subst q1
    cases v with
    | false => rw [if_neg Bool.false_ne_true] at o1 ⊢; exact ⟨ρ1, h1, σ, R1, S.mono e1, o1⟩
    | true => rw [if_pos rfl] at o1 ⊢; exact Out.done o1 R1 rfl⟩⟩
theorem jt_not {a : Expr} {ma : AT} {pos : Pos} (ha : JT X W a ma) : JT X W (.UnaryOp .Not a pos) (tNot ma) :=
  ⟨PTmono (pt_not ha.pt) fun τ H Q ⟨ρ, h, σ, R, S, o⟩ => ⟨ρ, h, σ, R, S, (Out.bind (R := fun _ _ (a b : Bool) => a = b) o).mono fun x H1 ⟨ρ1, v, h1, e1, R1, q1, o1⟩ => by
    subst q1; exact Out.done o1 R1 rfl⟩⟩
def aIf (c : AT) (a b : AE) : AE := fun σ h => (c σ h).bind fun x h1 => if x = true then a σ h1 else b σ h1
theorem je_if {c a b : Expr} {mc : AT} {ma mb : AE} {pos : Pos} (hc : JT X W c mc) (ha : JE X W a ma) (hb : JE X W b mb) : JE X W (.IfExp c a b pos) (aIf mc ma mb) :=
  ⟨PEmono (pe_ifExp hc.pt ha.pe hb.pe) fun τ H Q ⟨ρ, h, σ, R, S, o⟩ => ⟨ρ, h, σ, R, S, (Out.bind (R := fun _ _ (a b : Bool) => a = b) o).mono fun x H1 ⟨ρ1, v, h1, e1, R1, q1, o1⟩ => by
    subst q1
    cases v with
    | true => rw [if_pos rfl] at o1 ⊢; exact ⟨ρ1, h1, σ, R1, S.mono e1, o1⟩
    | false => rw [if_neg Bool.false_ne_true] at o1 ⊢; exact ⟨ρ1, h1, σ, R1, S.mono e1, o1⟩⟩⟩
/-- by a value's truth -/
def truth : PV → AH → Option Bool
  | .non, _ => some false
  | .bl b, _ => some b
  | .int i, _ => some (i != 0)
  | .str x, _ => if x.length ≤ sizeLine then some ((x.length : Int) != 0) else none
  | .loc n, h => match h[n]? with
    | some (.lst xs) => some !xs.isEmpty
    | some (.dK xs) => some !xs.isEmpty
    | _ => none
  | v, h => (seqOf v h).map fun xs => !xs.isEmpty
theorem RVs.emp {ρ : List Addr} {H : Hp} {xs : List PV} {vs : List V} (r : RVs K ρ H xs vs) : vs.isEmpty = xs.isEmpty := by
  cases xs with
  | nil => rw [r.nil_inv]; rfl
  | cons x xs => obtain ⟨v, vs', rfl, _⟩ := r.cons_inv; rfl
theorem truth_of {ρ : List Addr} {h : AH} {H : Hp} {v : PV} {x : V} {b : Bool} (R : Rep K ρ h H) (r : RV K ρ H v x) (e : truth v h = some b) : TruV K.fr x H b := by
  cases v with
  | non => cases e; rw [r.non_inv]; rfl
  | bl k => cases e; rw [r.bl_inv]; rfl
  | int i => cases e; rw [r.int_inv]; rfl
  | str s =>
    rw [r.str_inv]
    unfold truth at e
    dsimp only at e
    split at e
    · rename_i hz; cases e; exact ⟨hz, rfl⟩
    · cases e
  | tup xs =>
    obtain ⟨p, vs, rfl, f, q⟩ := r.tup_inv
    cases e
    exact .inr (.inl ⟨vs, f.sq, by rw [q.emp]⟩)
  | lst xs =>
    obtain ⟨p, vs, rfl, f, q⟩ := r.lst_inv
    cases e
    exact .inl ⟨vs, f.sq, by rw [q.emp]⟩
  | ro xs =>
    obtain ⟨p, vs, rfl, f, q⟩ := r.ro_inv
    cases e
    exact .inl ⟨vs, f.sq, by rw [q.emp]⟩
  | loc n =>
    obtain ⟨p, rfl, ep⟩ := r.loc_inv
    unfold truth at e
    dsimp only at e
    split at e
    · rename_i xs eh
      cases e
      obtain ⟨vs, e1, q⟩ := R.obj n p _ ep eh
      exact .inl ⟨vs, .inl (.inl e1), by rw [q.emp]⟩
    · rename_i xs eh
      cases e
      obtain ⟨vs, e1, q⟩ := R.obj n p _ ep eh
      refine .inr (.inr ⟨vs, e1, ?_⟩)
      have := congrArg List.isEmpty q.keys
      simp only [List.isEmpty_map] at this
      rw [this]
    · cases e
  | raw v => cases e
def aTr (m : AE) : AT := fun σ h => (m σ h).bind fun x h1 => match truth x h1 with
  | some b => .ok b h1
  | none => .stuck
theorem jt_truth {a : Expr} {ma : AE} (ha : JE X W a ma) (he : ∀ whole, isTrue a X.env whole = (do let v ← whole; standAt a.pos; holding [v] (truthy v)) := by intro _; rfl) : JT X W a (aTr ma) :=
  ⟨PTmono (pt_truth ha.pe he) fun τ H Q ⟨ρ, h, σ, R, S, o⟩ => ⟨ρ, h, σ, R, S, (Out.bind (R := RV (cxKW X)) o).mono fun x H1 ⟨ρ1, v, h1, e1, R1, q1, o1⟩ => by
    split at o1
    · rename_i b e
      exact ⟨b, truth_of R1 q1 e, Out.done o1 R1 rfl⟩
    · exact o1.elim⟩⟩
end
end AB

/-! AB4: displays, subscripts, slices, built-ins, methods of lists -/
namespace AB
open PySem PySem.Spec
open PyProof.Rows hiding St
open L2
section
variable {X : Cx} {W : WX} {K : KW}
/-! ### argument lists -/
def aNil : AL := fun _ h => .ok [] h
def aCons (a : AE) (r : AL) : AL := fun σ h => (a σ h).bind fun x h1 => (r σ h1).bind fun xs h2 => .ok (x :: xs) h2
theorem ja_nil : JA X W [] aNil := ⟨PAmono pa_nil fun τ H Q ⟨ρ, h, σ, R, S, o⟩ => Out.done o R RVs.nil⟩
theorem ja_cons {e : Expr} {es : List Expr} {m : AE} {r : AL} (ha : JE X W e m) (hr : JA X W es r) (hs : starEach (e :: es) X.env = (false, eval e X.env) :: starEach es X.env := by rfl) : JA X W (e :: es) (aCons m r) :=
  ⟨PAmono (pa_cons ha.pe hr.pa hs) fun τ H Q ⟨ρ, h, σ, R, S, o⟩ => ⟨ρ, h, σ, R, S, (Out.bind (R := RV (cxKW X)) o).mono fun x H1 ⟨ρ1, v, h1, e1, R1, q1, o1⟩ =>
    ⟨ρ1, h1, σ, R1, S.mono e1, (Out.bind (R := RVs (cxKW X)) o1).mono fun xs H2 ⟨ρ2, vs, h2, e2, R2, q2, o2⟩ => Out.done o2 R2 (.cons (q1.mono e2) q2)⟩⟩⟩
def aTup (l : AL) : AE := fun σ h => (l σ h).bind fun xs h1 => if xs.length ≤ sizeLine then .ok (.tup xs) h1 else .stuck
def aLst (l : AL) : AE := fun σ h => (l σ h).bind fun xs h1 => if xs.length ≤ sizeLine then new (.lst xs) h1 else .stuck
theorem je_tup {es : List Expr} {l : AL} {k : Nat} {pos : Pos} (h : JA X W es l) : JE X W (.Tuple es k pos) (aTup l) :=
  ⟨PEmono (pe_tup h.pa) fun τ H Q ⟨ρ, h, σ, R, S, o⟩ => ⟨ρ, h, σ, R, S, (Out.bind (R := RVs (cxKW X)) o).mono fun xs H1 ⟨ρ1, vs, h1, e1, R1, q1, o1⟩ => by
    split at o1
    · rename_i hz; exact ⟨by rw [q1.len]; exact hz, new_tup R1 q1 o1⟩
    · exact o1.elim⟩⟩
theorem je_lst {es : List Expr} {l : AL} {pos : Pos} (h : JA X W es l) : JE X W (.List es pos) (aLst l) :=
  ⟨PEmono (pe_lst h.pa) fun τ H Q ⟨ρ, h, σ, R, S, o⟩ => ⟨ρ, h, σ, R, S, (Out.bind (R := RVs (cxKW X)) o).mono fun xs H1 ⟨ρ1, vs, h1, e1, R1, q1, o1⟩ => by
    split at o1
    · rename_i hz; exact ⟨by rw [q1.len]; exact hz, new_lst R1 q1 o1⟩
    · exact o1.elim⟩⟩
/-! ### a[i] -/
theorem atI_of {ρ : List Addr} {H : Hp} {xs : List PV} {vs : List V} {i : Int} {x : PV} (r : RVs K ρ H xs vs) (e : atI xs i = some x) : ∃ v, atI vs i = some v ∧ RV K ρ H x v := by
  unfold atI at e ⊢
  rw [r.len]
  cases c : ixN xs.length i with
  | none => rw [c] at e; cases e
  | some j => rw [c] at e; exact r.get e
def fIx : F2
  | .str z, .int i, h => if z.length ≤ sizeLine then (match atI z.cps.toList i with
    | some c => .ok (.str ⟨#[c]⟩) h
    | none => .stuck) else .stuck
  | a, .int i, h => match seqOf a h with
    | some xs => match atI xs i with
      | some v => .ok v h
      | none => .stuck
    | none => .stuck
  | _, _, _ => .stuck
theorem ixa_seq : OpA K (rIx K.fr) fIx := by
  intro ρ h H τ W x y v u Q R r1 r2 o
  have seq : ∀ (a : PV) (i : Int), RV K ρ H a x → y = .int i → OutE K W ρ τ H (match seqOf a h with
    | some xs => match atI xs i with
      | some v => .ok v h
      | none => .stuck
    | none => .stuck) Q → rIx K.fr x y H Q := fun a i q1 ey o => by
      subst ey
      split at o
      · rename_i xs e1
        split at o
        · rename_i v e2
          obtain ⟨p, vs, rfl, s, q⟩ := seq_of R q1 e1
          obtain ⟨w, e3, q3⟩ := atI_of q e2
          rcases s with s | s
          · exact .inl ⟨p, vs, i, w, rfl, rfl, s, e3, Out.done o R q3⟩
          · exact .inr (.inl ⟨p, vs, i, w, rfl, rfl, s, e3, Out.done o R q3⟩)
        · exact o.elim
      · exact o.elim
  cases v with
  | str z =>
    cases u with
    | int i =>
      dsimp only [fIx] at o
      split at o
      · rename_i hz
        split at o
        · rename_i c e
          exact .inr (.inr ⟨z, i, c, r1.str_inv, r2.int_inv, hz, e, Out.done o R (.str _)⟩)
        · exact o.elim
      · exact o.elim
    | _ => exact o.elim
  | tup xs =>
    cases u with
    | int i => exact seq (.tup xs) i r1 r2.int_inv o
    | _ => exact o.elim
  | lst xs =>
    cases u with
    | int i => exact seq (.lst xs) i r1 r2.int_inv o
    | _ => exact o.elim
  | ro xs =>
    cases u with
    | int i => exact seq (.ro xs) i r1 r2.int_inv o
    | _ => exact o.elim
  | loc n =>
    cases u with
    | int i => exact seq (.loc n) i r1 r2.int_inv o
    | _ => exact o.elim
  | _ => cases u <;> exact o.elim
theorem je_ix {a b : Expr} {ma mb : AE} {pos : Pos} (ha : JE X W a ma) (hb : JE X W b mb) (hs : PlainIx b := by exact fun _ _ => rfl) : JE X W (.Subscript a b pos) (aOp fIx ma mb) :=
  ⟨PEmono (pe_ix ix_seq ha.pe hb.pe hs) fun τ H Q o => le_op ixa_seq o⟩
/-! ### a[lo:hi] -/
abbrev AP := ASt → AH → Res (Option Int)
structure JP (X : Cx) (W : WX) (e : Option Expr) (m : AP) : Prop where
  po : PO X e (fun τ H Q => ∃ ρ h σ, Rep (cxKW X) ρ h H ∧ RS (cxKW X) ρ H σ τ ∧ Out (cxKW X) W (fun _ _ (a b : Option Int) => a = b) ρ τ H (m σ h) Q)
theorem POmono {e : Option Expr} {t t' : TO} (p : PO X e t) (i : ∀ σ H Q, t' σ H Q → t σ H Q) : PO X e t' := ⟨fun pins s σ H Q I h => p.run pins s σ H Q I (i σ H Q h)⟩
def aNoP : AP := fun _ h => .ok none h
def aSoP (m : AE) : AP := fun σ h => (m σ h).bind fun x h1 => match x with
  | .int i => .ok (some i) h1
  | _ => .stuck
theorem jp_none : JP X W none aNoP := ⟨POmono po_none fun τ H Q ⟨ρ, h, σ, R, S, o⟩ => Out.done o R rfl⟩
theorem jp_some {e : Expr} {m : AE} (he : JE X W e m) : JP X W (some e) (aSoP m) :=
  ⟨POmono (po_some he.pe) fun τ H Q ⟨ρ, h, σ, R, S, o⟩ => ⟨ρ, h, σ, R, S, (Out.bind (R := RV (cxKW X)) o).mono fun x H1 ⟨ρ1, v, h1, e1, R1, q1, o1⟩ => by
    cases v with
    | int i => exact ⟨i, q1.int_inv, Out.done o1 R1 rfl⟩
    | _ => exact o1.elim⟩⟩
def cutP {α : Type} (xs : List α) (lo hi : Option Int) : List α := (xs.drop (HT.sIx xs.length 0 lo)).take (HT.sIx xs.length xs.length hi - HT.sIx xs.length 0 lo)
theorem RVs.cut {ρ : List Addr} {H : Hp} {xs : List PV} {vs : List V} (r : RVs K ρ H xs vs) (lo hi : Option Int) : RVs K ρ H (cutP xs lo hi) (cutV vs lo hi) := by
  unfold cutP cutV
  rw [r.len]
  exact (r.drop _).take _
theorem cutP_all {α : Type} {xs : List α} {lo hi : Option Int} (h : HT.sIx xs.length 0 lo = 0 ∧ HT.sIx xs.length xs.length hi = xs.length) : cutP xs lo hi = xs := by
  unfold cutP
  rw [h.1, h.2]
  simp
def fSl (v : PV) (lo hi : Option Int) (h : AH) : Res PV := match v with
  | .str z => if z.length ≤ sizeLine then .ok (.str (cutS z lo hi)) h else .stuck
  | .tup xs => .ok (.tup (cutP xs lo hi)) h
  | v => match lstOf v h with
    | some xs => new (.lst (cutP xs lo hi)) h
    | none => .stuck
def aSl (m : AE) (lo hi : AP) : AE := fun σ h => (m σ h).bind fun x h1 => (lo σ h1).bind fun l h2 => (hi σ h2).bind fun u h3 => fSl x l u h3
theorem sl_all : SlR X (fun x lo hi H Q => rSlA X.K x lo hi H Q ∨ (rSlL X.K x lo hi H Q ∨ rSlS x lo hi H Q)) := SlR.or sl_tupA (SlR.or sl_list sl_str)
theorem je_sl {e : Expr} {lo hi : Option Expr} {m : AE} {ml mh : AP} {pos p2 : Pos} (he : JE X W e m) (hl : JP X W lo ml) (hh : JP X W hi mh) : JE X W (.Subscript e (.Slice lo hi none p2) pos) (aSl m ml mh) := by
  refine ⟨PEmono (pe_slice sl_all he.pe hl.po hh.po) fun τ H Q ⟨ρ, h, σ, R, S, o⟩ => ⟨ρ, h, σ, R, S, (Out.bind (R := RV (cxKW X)) o).mono fun x H1 ⟨ρ1, v, h1, e1, R1, q1, o1⟩ => ?_⟩⟩
  refine ⟨ρ1, h1, σ, R1, S.mono e1, (Out.bind (R := fun _ _ (a b : Option Int) => a = b) o1).mono fun l H2 ⟨ρ2, l', h2, e2, R2, q2, o2⟩ => ?_⟩
  refine ⟨ρ2, h2, σ, R2, (S.mono e1).mono e2, (Out.bind (R := fun _ _ (a b : Option Int) => a = b) o2).mono fun u H3 ⟨ρ3, u', h3, e3, R3, q3, o3⟩ => ?_⟩
  subst q2; subst q3
  have q := (q1.mono e2).mono e3
  have lst : ∀ w : PV, RV (cxKW X) ρ3 H3 w x → OutE (cxKW X) W ρ3 τ H3 (match lstOf w h3 with
    | some xs => new (.lst (cutP xs l' u')) h3
    | none => .stuck) Q → rSlL X.K x l' u' H3 Q := fun w qw o => by
      split at o
      · rename_i xs e
        obtain ⟨p, vs, rfl, s, r⟩ := lst_of R3 qw e
        exact ⟨p, vs, rfl, s, new_lst R3 (r.cut _ _) o⟩
      · exact o.elim
  cases v with
  | str z =>
    dsimp only [fSl] at o3
    split at o3
    · rename_i hz
      exact .inr (.inr ⟨z, q.str_inv, hz, Out.done o3 R3 (.str _)⟩)
    · exact o3.elim
  | tup xs =>
    obtain ⟨p, vs, rfl, f, r⟩ := q.tup_inv
    refine .inl ⟨p, vs, rfl, f.sq, fun hall => ?_, fun _ => new_tup R3 (r.cut _ _) o3⟩
    dsimp only [fSl] at o3
    rw [cutP_all (xs := xs) (by rw [← r.len]; exact hall)] at o3
    exact Out.done o3 R3 (.tup vs f r.len r.at_)
  | lst xs => exact .inr (.inl (lst (.lst xs) q o3))
  | ro xs => exact .inr (.inl (lst (.ro xs) q o3))
  | loc n => exact .inr (.inl (lst (.loc n) q o3))
  | _ => exact o3.elim
/-- xs[::-1] of a list -/
def fRev : F1 := fun v h => match lstOf v h with
  | some xs => new (.lst xs.reverse) h
  | none => .stuck
theorem je_revL {e : Expr} {m : AE} {k : Nat} {pos p1 p2 p3 : Pos} (he : JE X W e m) : JE X W (.Subscript e (.Slice none none (some (.UnaryOp .USub (.Constant (.int 1) k p1) p2)) p3) pos) (aUn fRev m) :=
  ⟨PEmono (pe_revL he.pe) fun τ H Q ⟨ρ, h, σ, R, S, o⟩ => ⟨ρ, h, σ, R, S, (Out.bind (R := RV (cxKW X)) o).mono fun x H1 ⟨ρ1, v, h1, e1, R1, q1, o1⟩ => by
    dsimp only [fRev] at o1
    split at o1
    · rename_i xs e
      obtain ⟨p, vs, rfl, s, r⟩ := lst_of R1 q1 e
      exact ⟨p, vs, rfl, s, new_lst R1 r.reverse o1⟩
    · exact o1.elim⟩⟩
/-! ### built-ins -/
abbrev FN := List PV → AH → Res PV
def CallA (K : KW) (r : List V → Hp → VK → Prop) (f : FN) : Prop := ∀ (ρ : List Addr) (h : AH) (H : Hp) (τ : St) (W : WX) (xs : List PV) (vs : List V) (Q : VK), Rep K ρ h H → RVs K ρ H xs vs → OutE K W ρ τ H (f xs h) Q → r vs H Q
structure JFn (X : Cx) (g : Value) (f : FN) : Prop where
  ex : ∃ r, CallR X g r ∧ CallA (cxKW X) r f
theorem jfn {g : Value} {r : List V → Hp → VK → Prop} {f : FN} (a : CallR X g r) (b : CallA (cxKW X) r f) : JFn X g f := ⟨_, a, b⟩
def aFn (f : FN) (l : AL) : AE := fun σ h => (l σ h).bind f
theorem le_fn {r : List V → Hp → VK → Prop} {f : FN} {l : AL} (hf : CallA K r f) {τ : St} {H : Hp} {Q : VK} (o : LE K W (aFn f l) τ H Q) : tCB r (LL K W l) τ H Q := by
  obtain ⟨ρ, h, σ, R, S, o⟩ := o
  exact ⟨ρ, h, σ, R, S, (Out.bind (R := RVs K) o).mono fun x H1 ⟨ρ1, v, h1, e1, R1, q1, o1⟩ => hf ρ1 h1 H1 τ W v x Q R1 q1 o1⟩
theorem je_bi {id : String} {f : FN} {l : AL} {x : Str} {p pos : Pos} {e : Expr} {es : List Expr} (hc : JFn X (.builtin id) f) (hm : X.mg x = none) (hv : bootBuiltins x = some (.builtin id)) (ha : JA X W (e :: es) l) (hg : Gl X x := by rfl) (hn : x ≠ "__name__" := by decide) (hdb : (x == ("__debug__" : Str)) = false := by decide)
    (he : starEach (e :: es) X.env = (false, eval e X.env) :: starEach es X.env := by rfl) (hpl : (backTo pos (starEach es X.env)).any (·.1) = false := by rfl) : JE X W (.Call (.Name x p) (e :: es) [] pos) (aFn f l) := by
  obtain ⟨r, h1, h2⟩ := hc.ex
  exact ⟨PEmono (pe_callB h1 hg hm hv ha.pa hn hdb he hpl) fun τ H Q o => le_fn h2 o⟩
theorem je_ty {T : String} {f : FN} {l : AL} {x : Str} {p pos : Pos} {e : Expr} {es : List Expr} (hc : JFn X (.type T) f) (hm : X.mg x = none) (hv : bootBuiltins x = some (.type T)) (ha : JA X W (e :: es) l) (hg : Gl X x := by rfl) (hn : x ≠ "__name__" := by decide) (hdb : (x == ("__debug__" : Str)) = false := by decide)
    (he : starEach (e :: es) X.env = (false, eval e X.env) :: starEach es X.env := by rfl) (hpl : (backTo pos (starEach es X.env)).any (·.1) = false := by rfl) : JE X W (.Call (.Name x p) (e :: es) [] pos) (aFn f l) := by
  obtain ⟨r, h1, h2⟩ := hc.ex
  exact ⟨PEmono (pe_callTy h1 hg hm hv ha.pa hn hdb he hpl) fun τ H Q o => le_fn h2 o⟩
theorem one_inv {ρ : List Addr} {H : Hp} {a : PV} {vs : List V} (r : RVs K ρ H [a] vs) : ∃ v, vs = [v] ∧ RV K ρ H a v := by
  obtain ⟨v, t, rfl, q, s⟩ := r.cons_inv
  rw [s.nil_inv]; exact ⟨v, rfl, q⟩
theorem two_inv {ρ : List Addr} {H : Hp} {a b : PV} {vs : List V} (r : RVs K ρ H [a, b] vs) : ∃ v w, vs = [v, w] ∧ RV K ρ H a v ∧ RV K ρ H b w := by
  obtain ⟨v, t, rfl, q, s⟩ := r.cons_inv
  obtain ⟨w, rfl, q2⟩ := one_inv s
  exact ⟨v, w, rfl, q, q2⟩
def fnAbs : FN
  | [.int i], h => .ok (.int (if i < 0 then -i else i)) h
  | _, _ => .stuck
theorem j_abs : JFn X (.builtin "abs") fnAbs := jfn call_abs fun ρ h H τ W xs vs Q R r o => by
  unfold fnAbs at o
  split at o
  · obtain ⟨v, rfl, q⟩ := one_inv r
    rw [q.int_inv]; exact ⟨_, rfl, Out.done o R (.int _)⟩
  · exact o.elim
def fnInt : FN
  | [.int i], h => .ok (.int i) h
  | [.bl k], h => .ok (.int (if k then 1 else 0)) h
  | _, _ => .stuck
theorem j_int : JFn X (.type "int") fnInt := jfn call_int1 fun ρ h H τ W xs vs Q R r o => by
  unfold fnInt at o
  split at o
  · obtain ⟨v, rfl, q⟩ := one_inv r
    rw [q.int_inv]; exact .inl ⟨_, rfl, Out.done o R (.int _)⟩
  · obtain ⟨v, rfl, q⟩ := one_inv r
    rw [q.bl_inv]; exact .inr ⟨_, rfl, Out.done o R (.int _)⟩
  · exact o.elim
def fnStr : FN
  | [.int i], h => if i.natAbs.log2 < 1920 then .ok (.str (toString i)) h else .stuck
  | _, _ => .stuck
theorem j_strOf : JFn X (.type "str") fnStr := jfn call_str_int fun ρ h H τ W xs vs Q R r o => by
  unfold fnStr at o
  split at o
  · split at o
    · rename_i hz
      obtain ⟨v, rfl, q⟩ := one_inv r
      rw [q.int_inv]; exact ⟨_, rfl, hz, Out.done o R (.str _)⟩
    · exact o.elim
  · exact o.elim
def fnLen : FN
  | [.str z], h => if z.length ≤ sizeLine then .ok (.int z.length) h else .stuck
  | [v], h => match seqOf v h with
    | some xs => .ok (.int xs.length) h
    | none => .stuck
  | _, _ => .stuck
theorem j_len : JFn X (.builtin "len") fnLen := jfn call_len fun ρ h H τ W xs vs Q R r o => by
  unfold fnLen at o
  split at o
  · obtain ⟨v, rfl, q⟩ := one_inv r
    split at o
    · rename_i hz
      rw [q.str_inv]; exact ⟨_, _, rfl, ⟨hz, rfl⟩, Out.done o R (.int _)⟩
    · exact o.elim
  · obtain ⟨v, rfl, q⟩ := one_inv r
    split at o
    · rename_i xs e
      obtain ⟨p, vs, rfl, s, q⟩ := seq_of R q e
      refine ⟨.ref p, xs.length, rfl, ?_, Out.done o R (.int _)⟩
      rcases s with s | s
      · exact .inl ⟨vs, s, q.len.symm⟩
      · exact .inr ⟨vs, s, q.len.symm⟩
    · exact o.elim
  · exact o.elim
def fnList : FN
  | [v], h => match seqOf v h with
    | some xs => new (.lst xs) h
    | none => .stuck
  | _, _ => .stuck
theorem j_list : JFn X (.type "list") fnList := jfn call_list_of fun ρ h H τ W xs vs Q R r o => by
  unfold fnList at o
  split at o
  · obtain ⟨v, rfl, q⟩ := one_inv r
    split at o
    · rename_i xs e
      obtain ⟨p, vs, rfl, s, q⟩ := seq_of R q e
      exact ⟨p, vs, rfl, s, new_lst R q o⟩
    · exact o.elim
  · exact o.elim
def fnTuple : FN
  | [v], h => match seqOf v h with
    | some xs => .ok (.tup xs) h
    | none => .stuck
  | _, _ => .stuck
theorem j_tuple : JFn X (.type "tuple") fnTuple := jfn call_tuple_of fun ρ h H τ W xs vs Q R r o => by
  unfold fnTuple at o
  split at o
  · rename_i v
    obtain ⟨x, rfl, q⟩ := one_inv r
    split at o
    · rename_i xs e
      cases v with
      | tup ys =>
        cases e
        obtain ⟨p, vs, rfl, f, q'⟩ := q.tup_inv
        exact ⟨p, vs, rfl, .inr ⟨f.sq, Out.done o R q⟩⟩
      | lst ys => obtain ⟨p, vs, rfl, s, q⟩ := lst_of (v := .lst ys) R q e; exact ⟨p, vs, rfl, .inl ⟨s, new_tup R q o⟩⟩
      | ro ys => obtain ⟨p, vs, rfl, s, q⟩ := lst_of (v := .ro ys) R q e; exact ⟨p, vs, rfl, .inl ⟨s, new_tup R q o⟩⟩
      | loc n => obtain ⟨p, vs, rfl, s, q⟩ := lst_of (v := .loc n) R q e; exact ⟨p, vs, rfl, .inl ⟨s, new_tup R q o⟩⟩
      | _ => cases e
    · exact o.elim
  · exact o.elim
/-- ints in a sequence -/
def intsOf : List PV → Option (List Int)
  | [] => some []
  | .int i :: r => (intsOf r).map fun l => i :: l
  | _ :: _ => none
theorem intsOf_eq : ∀ {xs : List PV} {ns : List Int}, intsOf xs = some ns → xs = ns.map PV.int
  | [], _, e => by cases e; rfl
  | x :: xs, ns, e => by
    cases x with
    | int i =>
      unfold intsOf at e
      cases c : intsOf xs with
      | none => rw [c] at e; cases e
      | some l => rw [c] at e; cases e; rw [intsOf_eq c]; rfl
    | _ => cases e
theorem intsOf_map (ns : List Int) : intsOf (ns.map PV.int) = some ns := by
  induction ns with
  | nil => rfl
  | cons n ns ih => simp [intsOf, ih]
theorem ints_at {ρ : List Addr} {h : AH} {H : Hp} {v : PV} {x : V} {ns : List Int} (R : Rep K ρ h H) (r : RV K ρ H v x) (e : (lstOf v h).bind intsOf = some ns) : ∃ p, x = .ref p ∧ SqL K.fr H p (ns.map V.int) := by
  cases c : lstOf v h with
  | none => rw [c] at e; cases e
  | some xs =>
    rw [c] at e
    have e' := intsOf_eq e
    subst e'
    obtain ⟨p, vs, rfl, s, q⟩ := lst_of R r c
    rw [q.ints] at s
    exact ⟨p, rfl, s⟩
/-- sorted(list of ints), below 64 -/
def fnSorted : FN
  | [v], h => match (lstOf v h).bind intsOf with
    | some ns => if ns.length < 64 then new (.lst ((ns.mergeSort (fun a b => decide (a ≤ b))).map .int)) h else .stuck
    | none => .stuck
  | _, _ => .stuck
theorem sort_the {ns ns' : List Int} (p : ns'.Perm ns) (s : ns'.Pairwise (· ≤ ·)) : ns' = ns.mergeSort (fun a b => decide (a ≤ b)) := by
  have h2 : (ns.mergeSort (fun a b => decide (a ≤ b))).Pairwise (· ≤ ·) := by
    have := List.pairwise_mergeSort (le := fun (a b : Int) => decide (a ≤ b)) (fun a b c => by simp; omega) (fun a b => by simp; omega) ns
    exact this.imp (fun h => by simpa using h)
  exact List.Perm.eq_of_pairwise (le := fun (a b : Int) => a ≤ b) (fun a b _ _ h1 h2 => by omega) s h2 (p.trans (List.mergeSort_perm ns _).symm)
theorem j_sorted : JFn X (.builtin "sorted") fnSorted := jfn cr_sorted fun ρ h H τ W xs vs Q R r o => by
  unfold fnSorted at o
  split at o
  · obtain ⟨v, rfl, q⟩ := one_inv r
    split at o
    · rename_i ns e
      split at o
      · rename_i hz
        obtain ⟨p, rfl, s⟩ := ints_at R q e
        refine ⟨p, ns, rfl, s, hz, fun ns' l hp hs hl => ?_⟩
        rw [sort_the hp hs]
        exact new_lst R (.of_ints _) o l hl
      · exact o.elim
    · exact o.elim
  · exact o.elim
/-- max(list of ints), min, sum -/
def fnMax : FN
  | [.int i, .int j], h => .ok (.int (if j > i then j else i)) h
  | [v], h => match (lstOf v h).bind intsOf with
    | some (n :: ns) => .ok (.int (ns.foldl max n)) h
    | _ => .stuck
  | _, _ => .stuck
def fnMin : FN
  | [.int i, .int j], h => .ok (.int (if j < i then j else i)) h
  | [v], h => match (lstOf v h).bind intsOf with
    | some (n :: ns) => .ok (.int (ns.foldl min n)) h
    | _ => .stuck
  | _, _ => .stuck
theorem foldl_max_le (ns : List Int) : ∀ n, n ≤ ns.foldl max n ∧ (∀ y ∈ ns, y ≤ ns.foldl max n) ∧ (ns.foldl max n = n ∨ ns.foldl max n ∈ ns) := by
  induction ns with
  | nil => intro n; simp
  | cons a r ih =>
    intro n
    obtain ⟨h1, h2, h3⟩ := ih (max n a)
    rw [List.foldl_cons]
    refine ⟨by omega, fun y hy => ?_, ?_⟩
    · rcases List.mem_cons.mp hy with rfl | hy
      · omega
      · exact h2 y hy
    · rcases h3 with h3 | h3
      · rw [h3]
        by_cases c : n ≤ a
        · right; rw [Int.max_eq_right c]; exact List.mem_cons_self
        · left; omega
      · right; exact List.mem_cons_of_mem _ h3
theorem foldl_min_le (ns : List Int) : ∀ n, ns.foldl min n ≤ n ∧ (∀ y ∈ ns, ns.foldl min n ≤ y) ∧ (ns.foldl min n = n ∨ ns.foldl min n ∈ ns) := by
  induction ns with
  | nil => intro n; simp
  | cons a r ih =>
    intro n
    obtain ⟨h1, h2, h3⟩ := ih (min n a)
    rw [List.foldl_cons]
    refine ⟨by omega, fun y hy => ?_, ?_⟩
    · rcases List.mem_cons.mp hy with rfl | hy
      · omega
      · exact h2 y hy
    · rcases h3 with h3 | h3
      · rw [h3]
        by_cases c : a ≤ n
        · right; rw [Int.min_eq_right c]; exact List.mem_cons_self
        · left; omega
      · right; exact List.mem_cons_of_mem _ h3
theorem j_max (hc : X.calm = true) : JFn X (.builtin "max") fnMax := jfn (CallR.or (call_max2 hc) (cr_max hc)) fun ρ h H τ W xs vs Q R r o => by
  unfold fnMax at o
  split at o
  · obtain ⟨v, w, rfl, q1, q2⟩ := two_inv r
    rw [q1.int_inv, q2.int_inv]; exact .inl ⟨_, _, rfl, Out.done o R (.int _)⟩
  · obtain ⟨v, rfl, q⟩ := one_inv r
    split at o
    · rename_i n ns e
      obtain ⟨p, rfl, s⟩ := ints_at R q e
      refine .inr ⟨p, n :: ns, rfl, s, by simp, fun m hm hy => ?_⟩
      obtain ⟨h1, h2, h3⟩ := foldl_max_le ns n
      have em : m = ns.foldl max n := by
        have a1 : m ≤ ns.foldl max n := by
          rcases List.mem_cons.mp hm with rfl | hm
          · exact h1
          · exact h2 m hm
        have a2 : ns.foldl max n ≤ m := by
          rcases h3 with h3 | h3
          · rw [h3]; exact hy n List.mem_cons_self
          · exact hy _ (List.mem_cons_of_mem _ h3)
        omega
      rw [em]; exact Out.done o R (.int _)
    · exact o.elim
  · exact o.elim
theorem j_min (hc : X.calm = true) : JFn X (.builtin "min") fnMin := jfn (CallR.or (call_min2 hc) (cr_min hc)) fun ρ h H τ W xs vs Q R r o => by
  unfold fnMin at o
  split at o
  · obtain ⟨v, w, rfl, q1, q2⟩ := two_inv r
    rw [q1.int_inv, q2.int_inv]; exact .inl ⟨_, _, rfl, Out.done o R (.int _)⟩
  · obtain ⟨v, rfl, q⟩ := one_inv r
    split at o
    · rename_i n ns e
      obtain ⟨p, rfl, s⟩ := ints_at R q e
      refine .inr ⟨p, n :: ns, rfl, s, by simp, fun m hm hy => ?_⟩
      obtain ⟨h1, h2, h3⟩ := foldl_min_le ns n
      have em : m = ns.foldl min n := by
        have a1 : ns.foldl min n ≤ m := by
          rcases List.mem_cons.mp hm with rfl | hm
          · exact h1
          · exact h2 m hm
        have a2 : m ≤ ns.foldl min n := by
          rcases h3 with h3 | h3
          · rw [h3]; exact hy n List.mem_cons_self
          · exact hy _ (List.mem_cons_of_mem _ h3)
        omega
      rw [em]; exact Out.done o R (.int _)
    · exact o.elim
  · exact o.elim
def fnSum : FN
  | [v], h => match (lstOf v h).bind intsOf with
    | some ns => .ok (.int ns.sum) h
    | _ => .stuck
  | _, _ => .stuck
theorem j_sum (hc : X.calm = true) : JFn X (.builtin "sum") fnSum := jfn (cr_sum hc) fun ρ h H τ W xs vs Q R r o => by
  unfold fnSum at o
  split at o
  · obtain ⟨v, rfl, q⟩ := one_inv r
    split at o
    · rename_i ns e
      obtain ⟨p, rfl, s⟩ := ints_at R q e
      exact ⟨p, ns, rfl, s, Out.done o R (.int _)⟩
    · exact o.elim
  · exact o.elim
def boolsOf : List PV → Option (List Bool)
  | [] => some []
  | .bl i :: r => (boolsOf r).map fun l => i :: l
  | _ :: _ => none
theorem boolsOf_eq : ∀ {xs : List PV} {ns : List Bool}, boolsOf xs = some ns → xs = ns.map PV.bl
  | [], _, e => by cases e; rfl
  | x :: xs, ns, e => by
    cases x with
    | bl i =>
      unfold boolsOf at e
      cases c : boolsOf xs with
      | none => rw [c] at e; cases e
      | some l => rw [c] at e; cases e; rw [boolsOf_eq c]; rfl
    | _ => cases e
theorem boolsOf_map (ns : List Bool) : boolsOf (ns.map PV.bl) = some ns := by
  induction ns with
  | nil => rfl
  | cons n ns ih => simp [boolsOf, ih]
theorem bools_at {ρ : List Addr} {h : AH} {H : Hp} {v : PV} {x : V} {ns : List Bool} (R : Rep K ρ h H) (r : RV K ρ H v x) (e : (lstOf v h).bind boolsOf = some ns) : ∃ p, x = .ref p ∧ SqL K.fr H p (ns.map V.bl) := by
  cases c : lstOf v h with
  | none => rw [c] at e; cases e
  | some xs =>
    rw [c] at e
    have e' := boolsOf_eq e
    subst e'
    obtain ⟨p, vs, rfl, s, q⟩ := lst_of R r c
    rw [q.bools] at s
    exact ⟨p, rfl, s⟩
def fnAny : FN
  | [v], h => match (lstOf v h).bind boolsOf with
    | some ns => .ok (.bl (ns.any id)) h
    | _ => .stuck
  | _, _ => .stuck
def fnAll : FN
  | [v], h => match (lstOf v h).bind boolsOf with
    | some ns => .ok (.bl (ns.all id)) h
    | _ => .stuck
  | _, _ => .stuck
theorem j_any (hc : X.calm = true) : JFn X (.builtin "any") fnAny := jfn (cr_any hc) fun ρ h H τ W xs vs Q R r o => by
  unfold fnAny at o
  split at o
  · obtain ⟨v, rfl, q⟩ := one_inv r
    split at o
    · rename_i ns e
      obtain ⟨p, rfl, s⟩ := bools_at R q e
      exact ⟨p, ns, rfl, s, Out.done o R (.bl _)⟩
    · exact o.elim
  · exact o.elim
theorem j_all (hc : X.calm = true) : JFn X (.builtin "all") fnAll := jfn (cr_all hc) fun ρ h H τ W xs vs Q R r o => by
  unfold fnAll at o
  split at o
  · obtain ⟨v, rfl, q⟩ := one_inv r
    split at o
    · rename_i ns e
      obtain ⟨p, rfl, s⟩ := bools_at R q e
      exact ⟨p, ns, rfl, s, Out.done o R (.bl _)⟩
    · exact o.elim
  · exact o.elim
/-! ### isinstance -/
def tyN : PV → AH → Option String
  | .non, _ => some "NoneType"
  | .bl _, _ => some "bool"
  | .int _, _ => some "int"
  | .str _, _ => some "str"
  | .tup _, _ => some "tuple"
  | .lst _, _ => some "list"
  | .ro _, _ => some "list"
  | .loc n, h => match h[n]? with
    | some (.lst _) => some "list"
    | some (.dK _) => some "dict"
    | some (.dT _) => some "dict"
    | some (.fK _) => none
    | none => none
  | .raw _, _ => none
theorem tyN_of {ρ : List Addr} {h : AH} {H : Hp} {v : PV} {x : V} {n : String} (R : Rep K ρ h H) (r : RV K ρ H v x) (e : tyN v h = some n) : TyX K.fr H x (.type n) := by
  cases v with
  | non => cases e; rw [r.non_inv]; exact .base .non
  | bl k => cases e; rw [r.bl_inv]; exact .base (.bl _)
  | int i => cases e; rw [r.int_inv]; exact .base (.int _)
  | str s => cases e; rw [r.str_inv]; exact .base (.str _)
  | tup xs =>
    cases e
    obtain ⟨p, vs, rfl, f, q⟩ := r.tup_inv
    rcases f with ⟨f | ⟨o, f⟩, _⟩ | ⟨o, its, n, hk, hc, _⟩
    · exact .base (.tup f)
    · exact .fTuple f
    · exact .kTuple hk hc
  | lst xs =>
    cases e
    obtain ⟨p, vs, rfl, f, q⟩ := r.lst_inv
    exact .base (.lst f.1)
  | ro xs =>
    cases e
    obtain ⟨p, vs, rfl, f, q⟩ := r.ro_inv
    rcases f with ⟨f | ⟨o, f⟩, _⟩ | ⟨o, its, n, hk, hc, _⟩
    · exact .base (.lst f)
    · exact .base (.frz f)
    · exact .kList hk hc
  | loc m =>
    obtain ⟨p, rfl, ep⟩ := r.loc_inv
    unfold tyN at e
    dsimp only at e
    split at e
    · rename_i xs eh; cases e
      obtain ⟨vs, e1, q⟩ := R.obj m p _ ep eh
      exact .base (.lst e1)
    · rename_i xs eh; cases e
      obtain ⟨vs, e1, q⟩ := R.obj m p _ ep eh
      exact .base (.dK e1)
    · rename_i xs eh; cases e
      obtain ⟨vs, e1, q⟩ := R.obj m p _ ep eh
      exact .base (.dT e1)
    · cases e
    · cases e
  | raw v => cases e
def isiB (a b : String) : Option Bool := match a, b with
  | "NoneType", "int" | "NoneType", "bool" | "NoneType", "str" | "NoneType", "tuple" | "NoneType", "list" => some false
  | "bool", "int" | "bool", "bool" => some true
  | "bool", "str" | "bool", "tuple" | "bool", "list" => some false
  | "int", "int" => some true
  | "int", "bool" | "int", "str" | "int", "tuple" | "int", "list" => some false
  | "str", "str" => some true
  | "str", "int" | "str", "bool" | "str", "tuple" | "str", "list" => some false
  | "tuple", "tuple" => some true
  | "tuple", "int" | "tuple", "bool" | "tuple", "str" | "tuple", "list" => some false
  | "list", "list" => some true
  | "list", "int" | "list", "bool" | "list", "str" | "list", "tuple" => some false
  | "dict", "int" | "dict", "bool" | "dict", "str" | "dict", "tuple" | "dict", "list" => some false
  | _, _ => none
theorem isiB_ok {K : PySem.W.Frag} {a b : String} {r : Bool} (e : isiB a b = some r) : PySem.W.kitOne K (.type a) (.type b) = some r := by
  refine kit_ty ?_
  unfold isiB at e
  split at e <;> first | (cases e; decide +kernel) | cases e
def fnIsi : FN
  | [v, .raw (.ty b)], h => match (tyN v h).bind fun a => isiB a b with
    | some r => .ok (.bl r) h
    | none => .stuck
  | _, _ => .stuck
theorem j_isi : JFn X (.builtin "isinstance") fnIsi := jfn call_isi fun ρ h H τ W xs vs Q R r o => by
  unfold fnIsi at o
  split at o
  · rename_i v b
    obtain ⟨x, y, rfl, q1, q2⟩ := two_inv r
    split at o
    · rename_i k e
      cases q2
      cases c : tyN v h with
      | none => rw [c] at e; cases e
      | some a =>
        rw [c] at e
        exact ⟨x, .ty b, .type a, .type b, k, rfl, .ty b, tyN_of R q1 c, isiB_ok e, Out.done o R (.bl _)⟩
    · exact o.elim
  · exact o.elim
/-- the name of a built-in type -/
theorem je_bty {x : Str} {n : String} {pos : Pos} (hm : X.mg x = none) (hv : bootBuiltins x = some (.type n)) (hg : Gl X x := by rfl) (hn : x ≠ "__name__" := by decide) (hd : (x == ("__debug__" : Str)) = false := by decide) : JE X W (.Name x pos) (aC (.raw (.ty n))) :=
  je_c (pe_bltn (v := .ty n) hg hm hv rfl hn hd) fun _ _ => .raw _
/-! ### list(range(..)), tuple(range(..)) -/
def rgP (a b : Int) : List PV := (List.range (b - a).toNat).map fun i => PV.int (a + (i : Nat))
theorem RVs.rg {ρ : List Addr} {H : Hp} (a b : Int) : RVs K ρ H (rgP a b) (rgV a b) := by
  have e1 : rgP a b = ((List.range (b - a).toNat).map fun i => (a + (i : Nat) : Int)).map PV.int := by unfold rgP; rw [List.map_map]; rfl
  have e2 : rgV a b = ((List.range (b - a).toNat).map fun i => (a + (i : Nat) : Int)).map V.int := by unfold rgV; rw [List.map_map]; rfl
  rw [e1, e2]
  exact .of_ints _
def bRg (a b : Int) : Bool := decide (-(2 ^ 62) ≤ a) && decide (a < 2 ^ 62) && decide (-(2 ^ 62) ≤ b) && decide (b < 2 ^ 62) && decide ((b - a).toNat ≤ 2 ^ 24)
theorem bRg_ok {a b : Int} (h : bRg a b = true) : RgOk a b := by
  simp [bRg] at h
  obtain ⟨⟨⟨⟨h1, h2⟩, h3⟩, h4⟩, h5⟩ := h
  exact ⟨h1, h2, h3, h4, by omega⟩
def aLstRg1 (m : AE) : AE := fun σ h => (m σ h).bind fun x h1 => match x with
  | .int n => if bRg 0 n = true then new (.lst (rgP 0 n)) h1 else .stuck
  | _ => .stuck
def aTupRg1 (m : AE) : AE := fun σ h => (m σ h).bind fun x h1 => match x with
  | .int n => if bRg 0 n = true then .ok (.tup (rgP 0 n)) h1 else .stuck
  | _ => .stuck
theorem je_lstRg1 {a : Expr} {m : AE} {p p2 pos pos2 : Pos} (hc : X.calm = true) (hm : X.mg "list" = none) (hm2 : X.mg "range" = none) (ha : JE X W a m) (hg : Gl X "list" := by rfl) (hg2 : Gl X "range" := by rfl)
    (na : starEach [.Call (.Name "range" p2) [a] [] pos2] X.env = (false, eval (.Call (.Name "range" p2) [a] [] pos2) X.env) :: starEach [] X.env := by rfl) (na2 : starEach [a] X.env = (false, eval a X.env) :: starEach [] X.env := by rfl) :
    JE X W (.Call (.Name "list" p) [.Call (.Name "range" p2) [a] [] pos2] [] pos) (aLstRg1 m) :=
  ⟨PEmono (pe_listRg hc hg hm (prg_1 hg2 hm2 ha.pe na2) na) fun τ H Q ⟨ρ, h, σ, R, S, o⟩ => ⟨ρ, h, σ, R, S, (Out.bind (R := RV (cxKW X)) o).mono fun x H1 ⟨ρ1, v, h1, e1, R1, q1, o1⟩ => by
    cases v with
    | int n =>
      dsimp only at o1
      split at o1
      · rename_i c
        exact ⟨n, q1.int_inv, bRg_ok c, new_lst R1 (.rg 0 n) o1⟩
      · exact o1.elim
    | _ => exact o1.elim⟩⟩
theorem je_tupRg1 {a : Expr} {m : AE} {p p2 pos pos2 : Pos} (hc : X.calm = true) (hm : X.mg "tuple" = none) (hm2 : X.mg "range" = none) (ha : JE X W a m) (hg : Gl X "tuple" := by rfl) (hg2 : Gl X "range" := by rfl)
    (na : starEach [.Call (.Name "range" p2) [a] [] pos2] X.env = (false, eval (.Call (.Name "range" p2) [a] [] pos2) X.env) :: starEach [] X.env := by rfl) (na2 : starEach [a] X.env = (false, eval a X.env) :: starEach [] X.env := by rfl) :
    JE X W (.Call (.Name "tuple" p) [.Call (.Name "range" p2) [a] [] pos2] [] pos) (aTupRg1 m) :=
  ⟨PEmono (pe_tupRg hc hg hm (prg_1 hg2 hm2 ha.pe na2) na) fun τ H Q ⟨ρ, h, σ, R, S, o⟩ => ⟨ρ, h, σ, R, S, (Out.bind (R := RV (cxKW X)) o).mono fun x H1 ⟨ρ1, v, h1, e1, R1, q1, o1⟩ => by
    cases v with
    | int n =>
      dsimp only at o1
      split at o1
      · rename_i c
        exact ⟨n, q1.int_inv, bRg_ok c, new_tup R1 (.rg 0 n) o1⟩
      · exact o1.elim
    | _ => exact o1.elim⟩⟩
/-! ### methods of lists -/
abbrev FM := PV → List PV → AH → Res PV
def MtA (K : KW) (T : String) (r : V → List V → Hp → VK → Prop) (f : FM) : Prop := ∀ (ρ : List Addr) (h : AH) (H : Hp) (τ : St) (W : WX) (v : PV) (x : V) (xs : List PV) (vs : List V) (Q : VK), Rep K ρ h H → RV K ρ H v x → RVs K ρ H xs vs → OutE K W ρ τ H (f v xs h) Q → r x vs H Q
def TyA (T : String) (f : PV → AH → Bool) : Prop := ∀ (K : KW) (ρ : List Addr) (h : AH) (H : Hp) (v : PV) (x : V), Rep K ρ h H → RV K ρ H v x → f v h = true → tyV K.fr T x H
structure JM (X : Cx) (T : String) (name : Str) (f : FM) : Prop where
  ex : ∃ id r, PlainAttrs T ∧ Slot T name id ∧ typeOf (.builtin id) = pure (.type "method_descriptor") ∧ MtR X id r ∧ MtA (cxKW X) T r f
def isL (v : PV) (h : AH) : Bool := (lstOf v h).isSome
theorem tya_list : TyA "list" isL := fun K ρ h H v x R r e => by
  unfold isL at e
  cases c : lstOf v h with
  | none => rw [c] at e; cases e
  | some xs =>
    obtain ⟨p, vs, rfl, s, q⟩ := lst_of R r c
    exact .inl ⟨rfl, vs, s⟩
/-- o.m(args): o first, its kind looked at, then the arguments -/
def aM (ty : PV → AH → Bool) (f : FM) (o : AE) (l : AL) : AE := fun σ h => (o σ h).bind fun x h1 => if ty x h1 = true then (l σ h1).bind fun xs h2 => f x xs h2 else .stuck
theorem je_m {T : String} {ty : PV → AH → Bool} {name : Str} {f : FM} {o : Expr} {e : Expr} {es : List Expr} {mo : AE} {l : AL} {apos cpos : Pos} (hm : JM X T name f) (ht : TyA T ty) (ho : JE X W o mo) (ha : JA X W (e :: es) l)
    (hbase : attributeBase o name X.env (eval o X.env) = eval o X.env := by rfl)
    (hfew : ((backTo cpos (starEach (e :: es) X.env)).all (fun x => !x.1) && (backToKw cpos (keywordEach [] X.env)).all (fun x => x.1.isSome)
      && decide ((e :: es).length + ([] : List Keyword).length + (if ([] : List Keyword).isEmpty then 0 else 1) < 30)) = true := by rfl)
    (hline : (apos.endLine == cpos.line) = true := by rfl) (hs : starEach (e :: es) X.env = (false, eval e X.env) :: starEach es X.env := by rfl) (hplain : (backTo cpos (starEach es X.env)).any (·.1) = false := by rfl) :
    JE X W (.Call (.Attribute o name apos) (e :: es) [] cpos) (aM ty f mo l) := by
  obtain ⟨id, r, pa, slot, hty, hmt, hma⟩ := hm.ex
  refine ⟨PEmono (pe_bm pa slot hty hmt ho.pe ha.pa hbase hfew hline hs hplain) fun τ H Q ⟨ρ, h, σ, R, S, o⟩ => ⟨ρ, h, σ, R, S, (Out.bind (R := RV (cxKW X)) o).mono fun x H1 ⟨ρ1, v, h1, e1, R1, q1, o1⟩ => ?_⟩⟩
  split at o1
  · rename_i c
    refine ⟨ht _ ρ1 h1 H1 v x R1 q1 c, ρ1, h1, σ, R1, S.mono e1, (Out.bind (R := RVs (cxKW X)) o1).mono fun xs H2 ⟨ρ2, vs, h2, e2, R2, q2, o2⟩ => ?_⟩
    exact hma ρ2 h2 H2 τ W v x vs xs Q R2 (q1.mono e2) q2 o2
  · exact o1.elim
theorem je_m0 {T : String} {ty : PV → AH → Bool} {name : Str} {f : FM} {o : Expr} {mo : AE} {apos cpos : Pos} (hm : JM X T name f) (ht : TyA T ty) (ho : JE X W o mo)
    (hbase : attributeBase o name X.env (eval o X.env) = eval o X.env := by rfl) (hline : (apos.endLine == cpos.line) = true := by rfl) :
    JE X W (.Call (.Attribute o name apos) [] [] cpos) (aM ty f mo aNil) := by
  obtain ⟨id, r, pa, slot, hty, hmt, hma⟩ := hm.ex
  refine ⟨PEmono (pe_bm0 pa slot hty hmt ho.pe hbase hline) fun τ H Q ⟨ρ, h, σ, R, S, o⟩ => ⟨ρ, h, σ, R, S, (Out.bind (R := RV (cxKW X)) o).mono fun x H1 ⟨ρ1, v, h1, e1, R1, q1, o1⟩ => ?_⟩⟩
  split at o1
  · rename_i c
    exact ⟨ht _ ρ1 h1 H1 v x R1 q1 c, hma ρ1 h1 H1 τ W v x [] [] Q R1 q1 .nil o1⟩
  · exact o1.elim
/-- a list that is written: by its number -/
def put (n : Nat) (o : AO) (v : PV) (h : AH) : Res PV := .ok v (h.set n o)
theorem put_lst {ρ : List Addr} {h : AH} {H : Hp} {τ : St} {Q : VK} {n : Nat} {p : Addr} {xs : List PV} {vs : List V} {v : PV} {x : V} (R : Rep K ρ h H) (ep : ρ[n]? = some p) {ws : List V} (el : H p = some (.lst ws)) (r : RVs K ρ H xs vs) (rv : RV K ρ H v x) (o : OutE K W ρ τ H (put n (.lst xs) v h) Q) : Q x (upd H p (.lst vs)) :=
  o ρ (upd H p (.lst vs)) x (.write ep (nfL el)) (R.write ep (nfL el) ⟨vs, upd_same, r.mono (.write ep (nfL el))⟩) (rv.mono (.write ep (nfL el)))
theorem loc_lst {ρ : List Addr} {h : AH} {H : Hp} {n : Nat} {x : V} {xs : List PV} (R : Rep K ρ h H) (r : RV K ρ H (.loc n) x) (e : h[n]? = some (.lst xs)) : ∃ p vs, x = .ref p ∧ ρ[n]? = some p ∧ H p = some (.lst vs) ∧ RVs K ρ H xs vs := by
  obtain ⟨p, rfl, ep⟩ := r.loc_inv
  obtain ⟨vs, e1, q⟩ := R.obj n p _ ep e
  exact ⟨p, vs, rfl, ep, e1, q⟩
def mAppend : FM
  | .loc n, [y], h => match h[n]? with
    | some (.lst xs) => if xs.length < sizeLine then put n (.lst (xs ++ [y])) .non h else .stuck
    | _ => .stuck
  | _, _, _ => .stuck
theorem j_append : JM X "list" "append" mAppend := ⟨_, _, PySem.F.plainAttrs_list, PySem.F.slot_list_append, PySem.F.type_list_append, mt_append, fun ρ h H τ W v x xs vs Q R r rs o => by
  unfold mAppend at o
  split at o
  · rename_i n y
    split at o
    · rename_i ys e
      split at o
      · rename_i hz
        obtain ⟨p, us, rfl, ep, e1, q⟩ := loc_lst R r e
        obtain ⟨w, rfl, q2⟩ := one_inv rs
        exact ⟨p, us, w, rfl, rfl, e1, by rw [q.len]; exact hz, put_lst R ep e1 (q.append (.cons q2 .nil)) .non o⟩
      · exact o.elim
    · exact o.elim
  · exact o.elim⟩
def mExtend : FM
  | .loc n, [b], h => match h[n]?, ownOf b h with
    | some (.lst xs), some ys => if xs.length + ys.length ≤ sizeLine then put n (.lst (xs ++ ys)) .non h else .stuck
    | _, _ => .stuck
  | _, _, _ => .stuck
theorem j_extend : JM X "list" "extend" mExtend := ⟨_, _, PySem.F.plainAttrs_list, PySem.F.slot_list_extend, PySem.F.type_list_extend, mt_extend, fun ρ h H τ W v x xs vs Q R r rs o => by
  unfold mExtend at o
  split at o
  · rename_i n b
    split at o
    · rename_i ys zs e e2
      split at o
      · rename_i hz
        obtain ⟨p, us, rfl, ep, e1, q⟩ := loc_lst R r e
        obtain ⟨w, rfl, q2⟩ := one_inv rs
        obtain ⟨p2, ws, rfl, e3, q3⟩ := own_of R q2 e2
        exact ⟨p, p2, us, ws, rfl, rfl, e1, e3, by rw [q.len, q3.len]; exact hz, put_lst R ep e1 (q.append q3) .non o⟩
      · exact o.elim
    · exact o.elim
  · exact o.elim⟩
def mPop : FM
  | .loc n, [], h => match h[n]? with
    | some (.lst xs) => match xs[xs.length - 1]? with
      | some y => put n (.lst xs.dropLast) y h
      | none => .stuck
    | _ => .stuck
  | .loc n, [.int i], h => match h[n]? with
    | some (.lst xs) => if -(2 ^ 63) ≤ i ∧ i < 2 ^ 63 then (match ixN xs.length i with
      | some k => match xs[k]? with
        | some y => put n (.lst (xs.eraseIdx k)) y h
        | none => .stuck
      | none => .stuck) else .stuck
    | _ => .stuck
  | _, _, _ => .stuck
theorem RVs.dropLast {ρ : List Addr} {H : Hp} {xs : List PV} {vs : List V} (r : RVs K ρ H xs vs) : RVs K ρ H xs.dropLast vs.dropLast := by
  rw [List.dropLast_eq_take, List.dropLast_eq_take, r.len]; exact r.take _
theorem j_pop : JM X "list" "pop" mPop := ⟨_, _, PySem.F.plainAttrs_list, PySem.F.slot_list_pop, PySem.F.type_list_pop, MtR.or mt_pop mt_popAt, fun ρ h H τ W v x xs vs Q R r rs o => by
  unfold mPop at o
  split at o
  · rename_i n
    split at o
    · rename_i ys e
      split at o
      · rename_i y e2
        obtain ⟨p, us, rfl, ep, e1, q⟩ := loc_lst R r e
        obtain ⟨w, e3, q3⟩ := q.get e2
        rw [rs.nil_inv]
        exact .inl ⟨p, us, w, rfl, rfl, e1, by rw [q.len]; exact e3, put_lst R ep e1 q.dropLast q3 o⟩
      · exact o.elim
    · exact o.elim
  · rename_i n i
    split at o
    · rename_i ys e
      split at o
      · rename_i hi
        split at o
        · rename_i k ek
          split at o
          · rename_i y e2
            obtain ⟨p, us, rfl, ep, e1, q⟩ := loc_lst R r e
            obtain ⟨w, e3, q3⟩ := q.get e2
            obtain ⟨z, rfl, qz⟩ := one_inv rs
            rw [qz.int_inv]
            have es := (ixN_seq ek).1
            exact .inr ⟨p, us, i, k, w, rfl, rfl, e1, hi.1, hi.2, by rw [q.len]; exact es, e3, put_lst R ep e1 (q.eraseIdx k) q3 o⟩
          · exact o.elim
        · exact o.elim
      · exact o.elim
    · exact o.elim
  · exact o.elim⟩
def mInsert : FM
  | .loc n, [.int i, y], h => match h[n]? with
    | some (.lst xs) => if xs.length < sizeLine ∧ 0 ≤ i ∧ i < 2 ^ 63 then put n (.lst (xs.take i.toNat ++ [y] ++ xs.drop i.toNat)) .non h else .stuck
    | _ => .stuck
  | _, _, _ => .stuck
theorem j_insert : JM X "list" "insert" mInsert := ⟨_, _, PySem.F.plainAttrs_list, PySem.F.slot_list_insert, PySem.F.type_list_insert, mt_insert, fun ρ h H τ W v x xs vs Q R r rs o => by
  unfold mInsert at o
  split at o
  · rename_i n i y
    split at o
    · rename_i ys e
      split at o
      · rename_i hz
        obtain ⟨p, us, rfl, ep, e1, q⟩ := loc_lst R r e
        obtain ⟨z, w, rfl, qz, q2⟩ := two_inv rs
        rw [qz.int_inv]
        exact ⟨p, us, i, w, rfl, rfl, e1, by rw [q.len]; exact hz.1, hz.2.1, hz.2.2, put_lst R ep e1 (((q.take _).append (.cons q2 .nil)).append (q.drop _)) .non o⟩
      · exact o.elim
    · exact o.elim
  · exact o.elim⟩
end
end AB

/-! AB5: freezing; statements, loops, comprehensions, defs -/
namespace AB
open PySem PySem.Spec
open PyProof.Rows hiding St
open L2
/-! ### equality is decided -/
mutual
def PV.eqb : PV → PV → Bool
  | .non, .non => true
  | .bl a, .bl b => a == b
  | .int a, .int b => decide (a = b)
  | .str a, .str b => decide (a = b)
  | .tup a, .tup b => PV.eqbs a b
  | .lst a, .lst b => PV.eqbs a b
  | .ro a, .ro b => PV.eqbs a b
  | .loc a, .loc b => decide (a = b)
  | .raw a, .raw b => decide (a = b)
  | _, _ => false
termination_by structural x => x
def PV.eqbs : List PV → List PV → Bool
  | [], [] => true
  | a :: r, b :: s => PV.eqb a b && PV.eqbs r s
  | _, _ => false
termination_by structural x => x
end
mutual
theorem PV.eqb_iff : ∀ (a b : PV), PV.eqb a b = true ↔ a = b
  | .non, b => by cases b <;> simp [PV.eqb]
  | .bl a, b => by cases b <;> simp [PV.eqb]
  | .int a, b => by cases b <;> simp [PV.eqb]
  | .str a, b => by cases b <;> simp [PV.eqb]
  | .tup a, b => by cases b <;> simp [PV.eqb]; exact PV.eqbs_iff a _
  | .lst a, b => by cases b <;> simp [PV.eqb]; exact PV.eqbs_iff a _
  | .ro a, b => by cases b <;> simp [PV.eqb]; exact PV.eqbs_iff a _
  | .loc a, b => by cases b <;> simp [PV.eqb]
  | .raw a, b => by cases b <;> simp [PV.eqb]
theorem PV.eqbs_iff : ∀ (a b : List PV), PV.eqbs a b = true ↔ a = b
  | [], b => by cases b <;> simp [PV.eqbs]
  | x :: r, b => by
    cases b with
    | nil => simp [PV.eqbs]
    | cons y s =>
      rw [PV.eqbs, Bool.and_eq_true, PV.eqb_iff x y, PV.eqbs_iff r s]
      simp
end
instance : DecidableEq PV := fun a b => decidable_of_iff _ (PV.eqb_iff a b)
instance : DecidableEq AO
  | .lst a, .lst b => decidable_of_iff (a = b) ⟨fun h => by rw [h], fun h => by cases h; rfl⟩
  | .dK a, .dK b => decidable_of_iff (a = b) ⟨fun h => by rw [h], fun h => by cases h; rfl⟩
  | .dT a, .dT b => decidable_of_iff (a = b) ⟨fun h => by rw [h], fun h => by cases h; rfl⟩
  | .lst _, .dK _ => isFalse fun h => by cases h
  | .lst _, .dT _ => isFalse fun h => by cases h
  | .dK _, .lst _ => isFalse fun h => by cases h
  | .dK _, .dT _ => isFalse fun h => by cases h
  | .dT _, .lst _ => isFalse fun h => by cases h
  | .dT _, .dK _ => isFalse fun h => by cases h
  | .fK a, .fK b => decidable_of_iff (a = b) ⟨fun h => by rw [h], fun h => by cases h; rfl⟩
  | .fK _, .lst _ => isFalse fun h => by cases h
  | .fK _, .dK _ => isFalse fun h => by cases h
  | .fK _, .dT _ => isFalse fun h => by cases h
  | .lst _, .fK _ => isFalse fun h => by cases h
  | .dK _, .fK _ => isFalse fun h => by cases h
  | .dT _, .fK _ => isFalse fun h => by cases h
/-! ### freezing -/
mutual
/-- v without numbers from k on: f tells what stands for an object's items -/
def frzW (k : Nat) (h : AH) (f : List PV → Option (List PV)) : PV → Option PV
  | .tup xs => (frzWs k h f xs).map .tup
  | .lst xs => (frzWs k h f xs).map .lst
  | .ro xs => (frzWs k h f xs).map .ro
  | .loc n => if n < k then some (.loc n) else match h[n]? with
    | some (.lst xs) => (f xs).map .lst
    | _ => none
  | v => some v
termination_by structural x => x
def frzWs (k : Nat) (h : AH) (f : List PV → Option (List PV)) : List PV → Option (List PV)
  | [] => some []
  | v :: r => match frzW k h f v, frzWs k h f r with
    | some v', some r' => some (v' :: r')
    | _, _ => none
termination_by structural x => x
end
def frzs (k : Nat) (h : AH) : Nat → List PV → Option (List PV)
  | 0, xs => frzWs k h (fun _ => none) xs
  | d + 1, xs => frzWs k h (frzs k h d) xs
def frz (k : Nat) (h : AH) (v : PV) : Option PV := frzW k h (frzs k h 3) v
mutual
def PV.low (k : Nat) : PV → Bool
  | .tup xs => PV.lows k xs
  | .lst xs => PV.lows k xs
  | .ro xs => PV.lows k xs
  | .loc n => decide (n < k)
  | _ => true
termination_by structural x => x
def PV.lows (k : Nat) : List PV → Bool
  | [] => true
  | v :: r => PV.low k v && PV.lows k r
termination_by structural x => x
end
def AO.low (k : Nat) : AO → Bool
  | .lst xs => PV.lows k xs
  | .dK xs => PV.lows k (xs.map (·.2))
  | .dT xs => PV.lows k (xs.map (·.2))
  | .fK xs => PV.lows k (xs.map (·.2))
theorem belows_iff {k : Nat} : ∀ {xs : List PV}, PV.lows k xs = true ↔ ∀ x ∈ xs, PV.low k x = true
  | [] => by simp [PV.lows]
  | x :: xs => by rw [PV.lows, Bool.and_eq_true, belows_iff]; simp
mutual
theorem below_mono {k j : Nat} (hkj : k ≤ j) : ∀ (v : PV), PV.low k v = true → PV.low j v = true
  | .non, _ => rfl
  | .bl _, _ => rfl
  | .int _, _ => rfl
  | .str _, _ => rfl
  | .raw _, _ => rfl
  | .loc n, e => by simp only [PV.low, decide_eq_true_eq] at e ⊢; omega
  | .tup xs, e => belows_mono hkj xs e
  | .lst xs, e => belows_mono hkj xs e
  | .ro xs, e => belows_mono hkj xs e
theorem belows_mono {k j : Nat} (hkj : k ≤ j) : ∀ (v : List PV), PV.lows k v = true → PV.lows j v = true
  | [], _ => rfl
  | x :: xs, e => by
    simp only [PV.lows, Bool.and_eq_true] at e ⊢
    exact ⟨below_mono hkj x e.1, belows_mono hkj xs e.2⟩
end
mutual
theorem frzW_below {k : Nat} {h : AH} {f : List PV → Option (List PV)} : ∀ (v : PV), PV.low k v = true → frzW k h f v = some v
  | .non, _ => rfl
  | .bl _, _ => rfl
  | .int _, _ => rfl
  | .str _, _ => rfl
  | .raw _, _ => rfl
  | .loc n, e => by simp only [PV.low, decide_eq_true_eq] at e; simp [frzW, e]
  | .tup xs, e => by rw [frzW, frzWs_below xs e]; rfl
  | .lst xs, e => by rw [frzW, frzWs_below xs e]; rfl
  | .ro xs, e => by rw [frzW, frzWs_below xs e]; rfl
theorem frzWs_below {k : Nat} {h : AH} {f : List PV → Option (List PV)} : ∀ (v : List PV), PV.lows k v = true → frzWs k h f v = some v
  | [], _ => rfl
  | x :: xs, e => by
    simp only [PV.lows, Bool.and_eq_true] at e
    rw [frzWs, frzW_below x e.1, frzWs_below xs e.2]
end
theorem frz_below {k : Nat} {h : AH} {v : PV} (e : PV.low k v = true) : frz k h v = some v := frzW_below v e
theorem frzs_below {k : Nat} {h : AH} {xs : List PV} (e : PV.lows k xs = true) : ∀ d, frzs k h d xs = some xs
  | 0 => frzWs_below xs e
  | _ + 1 => frzWs_below xs e
theorem frz_new {k n : Nat} {h : AH} {xs : List PV} (hn : k ≤ n) (e : h[n]? = some (.lst xs)) (b : PV.lows k xs = true) : frz k h (.loc n) = some (.lst xs) := by
  unfold frz frzW
  rw [if_neg (by omega), e]
  show (frzs k h 3 xs).map PV.lst = _
  rw [frzs_below b]; rfl
section
variable {K : KW} {ρ ρ' : List Addr} {H H' : Hp} {h h1 : AH}
theorem RV.isLow {x : PV} {v : V} (r : RV K ρ H x v) : PV.low ρ.length x = true := by
  induction r with
  | non => rfl
  | bl => rfl
  | int => rfl
  | str => rfl
  | raw => rfl
  | loc e => simp only [PV.low, decide_eq_true_eq]; exact (List.getElem?_eq_some_iff.mp e).1
  | @tup xs p vs f n e ih =>
    refine belows_iff.mpr fun x hx => ?_
    obtain ⟨i, hi⟩ := List.getElem?_of_mem hx
    have h1 : i < vs.length := by rw [n]; exact (List.getElem?_eq_some_iff.mp hi).1
    exact ih i x vs[i] hi (by simp [h1])
  | @lst xs p vs f n e ih =>
    refine belows_iff.mpr fun x hx => ?_
    obtain ⟨i, hi⟩ := List.getElem?_of_mem hx
    have h1 : i < vs.length := by rw [n]; exact (List.getElem?_eq_some_iff.mp hi).1
    exact ih i x vs[i] hi (by simp [h1])
  | @ro xs p vs f n e ih =>
    refine belows_iff.mpr fun x hx => ?_
    obtain ⟨i, hi⟩ := List.getElem?_of_mem hx
    have h1 : i < vs.length := by rw [n]; exact (List.getElem?_eq_some_iff.mp hi).1
    exact ih i x vs[i] hi (by simp [h1])
theorem RVs.isLow {xs : List PV} {vs : List V} (r : RVs K ρ H xs vs) : PV.lows ρ.length xs = true := by
  refine belows_iff.mpr fun x hx => ?_
  obtain ⟨i, hi⟩ := List.getElem?_of_mem hx
  obtain ⟨v, _, q⟩ := r.get hi
  exact q.isLow
theorem RO.isLow {a : Addr} {o : AO} (r : RO K ρ H a o) : o.low ρ.length = true := by
  cases o with
  | lst xs => obtain ⟨vs, _, q⟩ := r; exact q.isLow
  | dK xs => obtain ⟨vs, _, q⟩ := r; exact q.vals.isLow
  | dT xs => obtain ⟨vs, _, q⟩ := r; exact q.vals.isLow
  | fK xs => obtain ⟨ob, vs, _, q⟩ := r; exact q.vals.isLow
/-- a value without numbers from k on holds of the first k addresses -/
theorem RV.cut {x : PV} {v : V} (r : RV K ρ H x v) {k : Nat} : PV.low k x = true → RV K (ρ.take k) H x v := by
  have sub : ∀ p, p ∉ ρ → p ∉ ρ.take k := fun p n z => n (List.mem_of_mem_take z)
  induction r with
  | non => exact fun _ => .non
  | bl b => exact fun _ => .bl b
  | int i => exact fun _ => .int i
  | str x => exact fun _ => .str x
  | raw v => exact fun _ => .raw v
  | loc e =>
    intro b
    simp only [PV.low, decide_eq_true_eq] at b
    exact .loc (by rw [List.getElem?_take_of_lt b]; exact e)
  | tup vs f n e ih =>
    intro b
    refine .tup vs ?_ n fun i x v e1 e2 => ih i x v e1 e2 (belows_iff.mp b x (List.mem_of_getElem? e1))
    rcases f with ⟨r, q⟩ | c
    · exact .inl ⟨r, sub _ q⟩
    · exact .inr c
  | lst vs f n e ih =>
    intro b
    exact .lst vs ⟨f.1, sub _ f.2⟩ n fun i x v e1 e2 => ih i x v e1 e2 (belows_iff.mp b x (List.mem_of_getElem? e1))
  | ro vs f n e ih =>
    intro b
    refine .ro vs ?_ n fun i x v e1 e2 => ih i x v e1 e2 (belows_iff.mp b x (List.mem_of_getElem? e1))
    rcases f with ⟨r, q⟩ | c
    · exact .inl ⟨r, sub _ q⟩
    · exact .inr c
theorem RVs.cut' {xs : List PV} {vs : List V} (r : RVs K ρ H xs vs) {k : Nat} (b : PV.lows k xs = true) : RVs K (ρ.take k) H xs vs :=
  ⟨r.len, fun i x v e1 e2 => (r.at_ i x v e1 e2).cut (belows_iff.mp b x (List.mem_of_getElem? e1))⟩
theorem RO.cut {a : Addr} {o : AO} (r : RO K ρ H a o) {k : Nat} (b : o.low k = true) : RO K (ρ.take k) H a o := by
  cases o with
  | lst xs => obtain ⟨vs, e, q⟩ := r; exact ⟨vs, e, q.cut' b⟩
  | dK xs => obtain ⟨vs, e, q⟩ := r; exact ⟨vs, e, q.keys, q.vals.cut' b⟩
  | dT xs => obtain ⟨vs, e, q⟩ := r; exact ⟨vs, e, q.keys, q.vals.cut' b⟩
  | fK xs => obtain ⟨ob, vs, e, q⟩ := r; exact ⟨ob, vs, e, q.keys, q.vals.cut' b⟩
/-- addresses from k on are not among the first k -/
theorem nodup_cut (nd : ρ.Nodup) {n k : Nat} {p : Addr} (hn : k ≤ n) (e : ρ[n]? = some p) : p ∉ ρ.take k := fun z => by
  obtain ⟨i, hi⟩ := List.getElem?_of_mem z
  have h1 : i < k := by
    have := (List.getElem?_eq_some_iff.mp hi).1
    rw [List.length_take] at this; omega
  rw [List.getElem?_take_of_lt h1] at hi
  have := nodup_at nd hi e
  omega
mutual
theorem frzW_ok (R : Rep K ρ h H) {k : Nat} {f : List PV → Option (List PV)} (hf : ∀ xs ys vs, f xs = some ys → RVs K ρ H xs vs → RVs K (ρ.take k) H ys vs) :
    ∀ (x y : PV) (v : V), frzW k h f x = some y → RV K ρ H x v → RV K (ρ.take k) H y v
  | .non, y, v, e, r => by cases e; exact r.cut rfl
  | .bl _, y, v, e, r => by cases e; exact r.cut rfl
  | .int _, y, v, e, r => by cases e; exact r.cut rfl
  | .str _, y, v, e, r => by cases e; exact r.cut rfl
  | .raw _, y, v, e, r => by cases e; exact r.cut rfl
  | .loc n, y, v, e, r => by
    unfold frzW at e
    by_cases hn : n < k
    · rw [if_pos hn] at e; cases e
      exact r.cut (by simp [PV.low, hn])
    · rw [if_neg hn] at e
      split at e
      · rename_i xs eh
        cases c : f xs with
        | none => rw [c] at e; cases e
        | some ys =>
          rw [c] at e; cases e
          obtain ⟨p, vs, rfl, ep, e1, q⟩ := loc_lst R r eh
          have q2 := hf xs ys vs c q
          exact .lst vs ⟨e1, nodup_cut R.nd (by omega) ep⟩ q2.len q2.at_
      · cases e
  | .tup xs, y, v, e, r => by
    unfold frzW at e
    obtain ⟨p, vs, rfl, f1, q⟩ := r.tup_inv
    cases c : frzWs k h f xs with
    | none => rw [c] at e; cases e
    | some ys =>
      rw [c] at e; cases e
      have q2 := frzWs_ok R hf xs ys vs c q
      refine .tup vs ?_ q2.len q2.at_
      rcases f1 with ⟨r, n⟩ | c
      · exact .inl ⟨r, fun z => n (List.mem_of_mem_take z)⟩
      · exact .inr c
  | .lst xs, y, v, e, r => by
    unfold frzW at e
    obtain ⟨p, vs, rfl, f1, q⟩ := r.lst_inv
    cases c : frzWs k h f xs with
    | none => rw [c] at e; cases e
    | some ys =>
      rw [c] at e; cases e
      have q2 := frzWs_ok R hf xs ys vs c q
      exact .lst vs ⟨f1.1, fun z => f1.2 (List.mem_of_mem_take z)⟩ q2.len q2.at_
  | .ro xs, y, v, e, r => by
    unfold frzW at e
    obtain ⟨p, vs, rfl, f1, q⟩ := r.ro_inv
    cases c : frzWs k h f xs with
    | none => rw [c] at e; cases e
    | some ys =>
      rw [c] at e; cases e
      have q2 := frzWs_ok R hf xs ys vs c q
      refine .ro vs ?_ q2.len q2.at_
      rcases f1 with ⟨r, n⟩ | c
      · exact .inl ⟨r, fun z => n (List.mem_of_mem_take z)⟩
      · exact .inr c
theorem frzWs_ok (R : Rep K ρ h H) {k : Nat} {f : List PV → Option (List PV)} (hf : ∀ xs ys vs, f xs = some ys → RVs K ρ H xs vs → RVs K (ρ.take k) H ys vs) :
    ∀ (xs ys : List PV) (vs : List V), frzWs k h f xs = some ys → RVs K ρ H xs vs → RVs K (ρ.take k) H ys vs
  | [], ys, vs, e, r => by cases e; rw [r.nil_inv]; exact .nil
  | x :: xs, ys, vs, e, r => by
    unfold frzWs at e
    split at e
    · rename_i v' r' e1 e2
      cases e
      obtain ⟨v, vs', rfl, q, s⟩ := r.cons_inv
      exact .cons (frzW_ok R hf x v' v e1 q) (frzWs_ok R hf xs r' vs' e2 s)
    · cases e
end
theorem frzs_ok (R : Rep K ρ h H) {k : Nat} : ∀ (d : Nat) (xs ys : List PV) (vs : List V), frzs k h d xs = some ys → RVs K ρ H xs vs → RVs K (ρ.take k) H ys vs
  | 0, xs, ys, vs, e, r => frzWs_ok R (fun _ _ _ z => by cases z) xs ys vs e r
  | d + 1, xs, ys, vs, e, r => frzWs_ok R (fun xs ys vs e r => frzs_ok R d xs ys vs e r) xs ys vs e r
theorem frz_ok (R : Rep K ρ h H) {k : Nat} {x y : PV} {v : V} (e : frz k h x = some y) (r : RV K ρ H x v) : RV K (ρ.take k) H y v :=
  frzW_ok R (fun xs ys vs e r => frzs_ok R 3 xs ys vs e r) x y v e r
/-- the old objects: as they were, or without new numbers -/
def cutB (h h1 : AH) : Nat → Bool
  | 0 => true
  | n + 1 => cutB h h1 n && (decide (h1[n]? = h[n]?) || (match h1[n]? with
    | some o => o.low h.length
    | none => false))
theorem cutB_at {n m : Nat} (hm : m < n) (c : cutB h h1 n = true) : h1[m]? = h[m]? ∨ ∃ o, h1[m]? = some o ∧ o.low h.length = true := by
  induction n with
  | zero => omega
  | succ n ih =>
    simp only [cutB, Bool.and_eq_true, Bool.or_eq_true, decide_eq_true_eq] at c
    by_cases e : m = n
    · subst e
      rcases c.2 with c | c
      · exact .inl c
      · split at c
        · rename_i o eo; exact .inr ⟨o, eo, c⟩
        · cases c
    · exact ih (by omega) c.1
theorem cutB_of {n : Nat} (c : ∀ m, m < n → h1[m]? = h[m]? ∨ ∃ o, h1[m]? = some o ∧ o.low h.length = true) : cutB h h1 n = true := by
  induction n with
  | zero => rfl
  | succ n ih =>
    simp only [cutB, Bool.and_eq_true, Bool.or_eq_true, decide_eq_true_eq]
    refine ⟨ih fun m hm => c m (by omega), ?_⟩
    rcases c n (by omega) with c | ⟨o, eo, c⟩
    · exact .inl c
    · exact .inr (by rw [eo]; exact c)
/-- the state without the new objects -/
theorem Rep.cut (R : Rep K ρ h H) (R1 : Rep K ρ' h1 H') (x : Ext ρ H ρ' H') (c : cutB h h1 h.length = true) : ρ'.take h.length = ρ ∧ Rep K ρ (h1.take h.length) H' ∧ Ext ρ H ρ H' := by
  have e0 : ρ'.take h.length = ρ := by
    obtain ⟨t, rfl⟩ := x.pre
    rw [← R.len, List.take_left]
  have hl : h.length ≤ h1.length := by
    have := x.pre.length_le
    rw [R.len, R1.len] at this; exact this
  refine ⟨e0, ⟨R.nd, by rw [R.len, List.length_take]; omega, fun n a o e1 e2 => ?_⟩, ⟨List.prefix_refl _, fun p o e n => ⟨(x.old p o e n).1, n⟩, x.frz⟩⟩
  have hn : n < h.length := by rw [← R.len]; exact (List.getElem?_eq_some_iff.mp e1).1
  rw [List.getElem?_take_of_lt hn] at e2
  have q := R1.obj n a o (x.get e1) e2
  have b : o.low h.length = true := by
    rcases cutB_at hn c with c | ⟨o', eo, c⟩
    · rw [e2] at c
      have := (R.obj n a o e1 c.symm).isLow
      rw [R.len] at this; exact this
    · rw [e2] at eo; cases eo; exact c
  have q2 := q.cut b
  rw [e0] at q2
  exact q2
end
section
variable {X : Cx} {W : WX} {K : KW}
/-- the value frozen, the new objects given up -/
def finC (k : Nat) (h h1 : AH) (v : PV) : Res PV := if cutB h h1 k = true then (match frz k h1 v with
  | some v' => .ok v' (h1.take k)
  | none => .stuck) else .stuck
def aCut (m : AE) : AE := fun σ h => match m σ h with
  | .ok v h1 => finC h.length h h1 v
  | .exc c fs h1 => .exc c fs h1
  | .stuck => .stuck
theorem Out.cut {ρ : List Addr} {h : AH} {H : Hp} {τ : St} {r : Res PV} {Q : VK} (R : Rep K ρ h H) (o : OutE K W ρ τ H (match r with
  | .ok v h1 => finC h.length h h1 v
  | .exc c fs h1 => .exc c fs h1
  | .stuck => .stuck) Q) : OutE K W ρ τ H r Q := by
  cases r with
  | ok v h1 =>
    intro ρ' H' x e R1 r
    unfold finC at o
    dsimp only at o
    split at o
    · rename_i c
      split at o
      · rename_i v' ev
        obtain ⟨e0, R2, x2⟩ := R.cut R1 e c
        have q := frz_ok R1 ev r
        rw [e0] at q
        exact o ρ H' x x2 R2 q
      · exact o.elim
    · exact o.elim
  | exc c fs h1 => exact o
  | stuck => exact o
theorem je_cut {e : Expr} {m : AE} (he : JE X W e m) : JE X W e (aCut m) :=
  ⟨PEmono he.pe fun τ H Q ⟨ρ, h, σ, R, S, o⟩ => ⟨ρ, h, σ, R, S, Out.cut R o⟩⟩
def tCut (m : AT) : AT := fun σ h => match m σ h with
  | .ok v h1 => if cutB h h1 h.length = true then .ok v (h1.take h.length) else .stuck
  | .exc c fs h1 => .exc c fs h1
  | .stuck => .stuck
theorem jt_cut {e : Expr} {m : AT} (he : JT X W e m) : JT X W e (tCut m) :=
  ⟨PTmono he.pt fun τ H Q ⟨ρ, h, σ, R, S, o⟩ => ⟨ρ, h, σ, R, S, by
    unfold tCut at o
    cases c : m σ h with
    | ok v h1 =>
      rw [c] at o
      dsimp only at o
      intro ρ' H' x e R1 r
      split at o
      · rename_i cb
        obtain ⟨e0, R2, x2⟩ := R.cut R1 e cb
        exact o ρ H' x x2 R2 r
      · exact o.elim
    | exc c' fs h1 => rw [c] at o; exact o
    | stuck => rw [c] at o; exact o⟩⟩
/-! ### statements -/
def liftS {α : Type} (r : Res α) (σ : ASt) (f : α → AH → SRes) : SRes := match r with
  | .ok a h => f a h
  | .exc c fs h => .exc c fs σ h
  | .stuck => .stuck
@[simp] theorem liftS_ok {α : Type} (a : α) (h : AH) (σ : ASt) (f : α → AH → SRes) : liftS (.ok a h) σ f = f a h := rfl
section
variable {α β : Type} {R : List Addr → Hp → α → β → Prop} {ρ ρ' : List Addr} {H H' : Hp} {τ : St}
theorem OutS.later {r : SRes} {D : Ends} (o : OutS K W ρ H r D) (e : Ext ρ H ρ' H') : OutS K W ρ' H' r D := by
  cases r with
  | fin f σ h =>
    cases f with
    | nx => exact fun r t G a b c => o r t G (e.trans a) b c
    | bk => exact fun r t G a b c => o r t G (e.trans a) b c
    | ct => exact fun r t G a b c => o r t G (e.trans a) b c
    | rt v => exact fun r t G a b c => o r t G (e.trans a) b c
  | exc c fs σ h => exact fun r t G d a b c x => o r t G d (e.trans a) b c x
  | stuck => exact o
/-- a part of a statement -/
theorem OutS.lift {r : Res α} {σ : ASt} {f : α → AH → SRes} {D : Ends} (S : RS K ρ H σ τ) (o : OutS K W ρ H (liftS r σ f) D) :
    Out K W R ρ τ H r (fun y G => ∃ ρ1 a h1, Ext ρ H ρ1 G ∧ Rep K ρ1 h1 G ∧ R ρ1 G a y ∧ OutS K W ρ1 G (f a h1) D) := by
  cases r with
  | ok a h => exact fun r G y e b g => ⟨r, a, h, e, b, g, OutS.later o e⟩
  | exc c fs h => exact fun r G d e b x => o r τ G d e b (S.mono e) x
  | stuck => exact o
end
def sExpr (m : AE) : AS := fun σ h => liftS (m σ h) σ fun _ h1 => .fin .nx σ h1
def sRet (m : AE) : AS := fun σ h => liftS (m σ h) σ fun x h1 => .fin (.rt x) σ h1
def sRetN : AS := fun σ h => .fin (.rt .non) σ h
def sNext : AS := fun σ h => .fin .nx σ h
def sBreak : AS := fun σ h => .fin .bk σ h
def sCont : AS := fun σ h => .fin .ct σ h
def sNever : AS := fun _ _ => .stuck
def sIf (c : AT) (a b : AS) : AS := fun σ h => liftS (c σ h) σ fun x h1 => if x = true then a σ h1 else b σ h1
def sSeq (a b : AS) : AS := fun σ h => match a σ h with
  | .fin .nx σ1 h1 => b σ1 h1
  | r => r
theorem js_expr {e : Expr} {m : AE} {pos : Pos} (he : JE X W e m) (hs : swapsWith e none pos.line X.env = pure false := by rfl) : JS X W (.Expr e pos) (sExpr m) :=
  ⟨PSmono (ps_expr he.pe hs) fun D τ H ⟨ρ, h, σ, R, S, o⟩ => ⟨ρ, h, σ, R, S, (OutS.lift (R := RV (cxKW X)) S o).mono fun x H1 ⟨ρ1, v, h1, e1, R1, q1, o1⟩ => o1 ρ1 τ H1 .refl R1 (S.mono e1)⟩⟩
theorem js_ret {e : Expr} {m : AE} {pos : Pos} (he : JE X W e m) : JS X W (.Return (some e) pos) (sRet m) :=
  ⟨PSmono (ps_ret he.pe) fun D τ H ⟨ρ, h, σ, R, S, o⟩ => ⟨ρ, h, σ, R, S, (OutS.lift (R := RV (cxKW X)) S o).mono fun x H1 ⟨ρ1, v, h1, e1, R1, q1, o1⟩ => o1 ρ1 x H1 .refl R1 q1⟩⟩
theorem js_retN {pos : Pos} : JS X W (.Return none pos) sRetN :=
  ⟨PSmono ps_retN fun D τ H ⟨ρ, h, σ, R, S, o⟩ => o ρ .non H .refl R .non⟩
theorem js_pass {pos : Pos} : JS X W (.Pass pos) sNext := ⟨PSmono ps_pass fun D τ H ⟨ρ, h, σ, R, S, o⟩ => o ρ τ H .refl R S⟩
theorem js_break {pos : Pos} : JS X W (.Break pos) sBreak := ⟨PSmono ps_break fun D τ H ⟨ρ, h, σ, R, S, o⟩ => o ρ τ H .refl R S⟩
theorem js_cont {pos : Pos} : JS X W (.Continue pos) sCont := ⟨PSmono ps_continue fun D τ H ⟨ρ, h, σ, R, S, o⟩ => o ρ τ H .refl R S⟩
theorem js_never {st : Stmt} : JS X W st sNever := ⟨PSmono ps_never fun D τ H ⟨ρ, h, σ, R, S, o⟩ => o⟩
theorem jss_never {st : List Stmt} : JSs X W st sNever := ⟨PSsmono pss_never fun D τ H ⟨ρ, h, σ, R, S, o⟩ => o⟩
theorem jss_nil : JSs X W [] sNext := ⟨PSsmono pss_nil fun D τ H ⟨ρ, h, σ, R, S, o⟩ => o ρ τ H .refl R S⟩
theorem jss_one {st : Stmt} {m : AS} (h1 : JS X W st m) : JSs X W [st] m := ⟨pss_one h1.ps⟩
theorem jss_cons {st : Stmt} {rest : List Stmt} {m u : AS} (h1 : JS X W st m) (h2 : JSs X W rest u) : JSs X W (st :: rest) (sSeq m u) :=
  ⟨PSsmono (pss_cons h1.ps h2.pss) fun D τ H ⟨ρ, h, σ, R, S, o⟩ => ⟨ρ, h, σ, R, S, by
    unfold sSeq at o
    cases c : m σ h with
    | fin f σ1 h1 =>
      rw [c] at o
      cases f with
      | nx => exact fun ρ1 τ1 H1 e1 R1 S1 => ⟨ρ1, h1, σ1, R1, S1, OutS.later o e1⟩
      | bk => exact o
      | ct => exact o
      | rt v => exact o
    | exc c' fs σ1 h1 => rw [c] at o; exact o
    | stuck => rw [c] at o; exact o.elim⟩⟩
theorem js_if {c : Expr} {a b : List Stmt} {mc : AT} {ma mb : AS} {pos : Pos} (hc : JT X W c mc) (ha : JSs X W a ma) (hb : JSs X W b mb) : JS X W (.If c a b pos) (sIf mc ma mb) :=
  ⟨PSmono (ps_if hc.pt ha.pss hb.pss) fun D τ H ⟨ρ, h, σ, R, S, o⟩ => ⟨ρ, h, σ, R, S, (OutS.lift (R := fun _ _ (a b : Bool) => a = b) S o).mono fun x H1 ⟨ρ1, v, h1, e1, R1, q1, o1⟩ => by
    subst q1
    cases v with
    | true => rw [if_pos rfl] at o1 ⊢; exact ⟨ρ1, h1, σ, R1, S.mono e1, o1⟩
    | false => rw [if_neg Bool.false_ne_true] at o1 ⊢; exact ⟨ρ1, h1, σ, R1, S.mono e1, o1⟩⟩⟩
/-! ### targets -/
abbrev AG := PV → ASt → AH → Option (ASt × AH)
abbrev AGs := List PV → ASt → AH → Option (ASt × AH)
def OutG (K : KW) (ρ : List Addr) (H : Hp) (r : Option (ASt × AH)) (Q : St → Hp → Prop) : Prop := match r with
  | some (σ, h) => ∀ ρ' τ H', Ext ρ H ρ' H' → Rep K ρ' h H' → RS K ρ' H' σ τ → Q τ H'
  | none => False
structure JG (X : Cx) (tg : Expr) (g : AG) : Prop where
  pg : PG X tg (fun v τ H Q => ∃ ρ h σ x, Rep (cxKW X) ρ h H ∧ RS (cxKW X) ρ H σ τ ∧ RV (cxKW X) ρ H x v ∧ OutG (cxKW X) ρ H (g x σ h) Q)
structure JGs (X : Cx) (ts : List Expr) (g : AGs) : Prop where
  pgs : PGs X ts (fun v τ H Q => ∃ ρ h σ x, Rep (cxKW X) ρ h H ∧ RS (cxKW X) ρ H σ τ ∧ RVs (cxKW X) ρ H x v ∧ OutG (cxKW X) ρ H (g x σ h) Q)
theorem PGmono {e : Expr} {t t' : TG} (p : PG X e t) (i : ∀ v σ H Q, t' v σ H Q → t v σ H Q) : PG X e t' := ⟨fun pins s σ H v u Q I r h => p.run pins s σ H v u Q I r (i v σ H Q h)⟩
theorem PGsmono {e : List Expr} {t t' : TGs} (p : PGs X e t) (i : ∀ v σ H Q, t' v σ H Q → t v σ H Q) : PGs X e t' := ⟨fun pins s σ H v u Q I r h => p.run pins s σ H v u Q I r (i v σ H Q h)⟩
theorem OutG.later {ρ ρ' : List Addr} {H H' : Hp} {r : Option (ASt × AH)} {Q : St → Hp → Prop} (o : OutG K ρ H r Q) (e : Ext ρ H ρ' H') : OutG K ρ' H' r Q := by
  cases r with
  | none => exact o
  | some p => exact fun r t G a b c => o r t G (e.trans a) b c
theorem OutG.mono {ρ : List Addr} {H : Hp} {r : Option (ASt × AH)} {Q Q' : St → Hp → Prop} (o : OutG K ρ H r Q) (i : ∀ t G, Q t G → Q' t G) : OutG K ρ H r Q' := by
  cases r with
  | none => exact o
  | some p => exact fun r t G a b c => i _ _ (o r t G a b c)
def gN (i : Nat) : AG := fun x σ h => some (σ.set i (some x), h)
theorem jg_name (i : Nat) {x : Str} {pos : Pos} (hN : X.N.Nodup) (hi : X.N[i]? = some x := by rfl) (hx : Loc X.env.scope x := by first | exact Or.inl rfl | exact Or.inr rfl) (hf : X.fn x = true ∨ X.env.scope.names.lookup x = some .local := by first | exact .inl rfl | exact .inr rfl) : JG X (.Name x pos) (gN i) :=
  ⟨PGmono (pg_name (i := i) hN hi hx hf) fun v τ H Q ⟨ρ, h, σ, y, R, S, r, o⟩ => o ρ _ H .refl R (S.set i r)⟩
def gNil' : AGs := fun xs σ h => match xs with
  | [] => some (σ, h)
  | _ => none
def gCons' (g : AG) (r : AGs) : AGs := fun xs σ h => match xs with
  | x :: t => match g x σ h with
    | some (σ1, h1) => r t σ1 h1
    | none => none
  | [] => none
theorem jgs_nil : JGs X [] gNil' := ⟨PGsmono pgs_nil fun v τ H Q ⟨ρ, h, σ, y, R, S, r, o⟩ => by
  cases y with
  | nil => exact ⟨r.nil_inv, o ρ τ H .refl R S⟩
  | cons a t => exact o.elim⟩
theorem jgs_cons {e : Expr} {es : List Expr} {g : AG} {u : AGs} (h1 : JG X e g) (h2 : JGs X es u) (hs : (assignEach (e :: es) X.env).map (·.2) = assign e X.env :: (assignEach es X.env).map (·.2) := by rfl) : JGs X (e :: es) (gCons' g u) :=
  ⟨PGsmono (pgs_cons h1.pg h2.pgs hs) fun v τ H Q ⟨ρ, h, σ, y, R, S, r, o⟩ => by
    cases y with
    | nil => exact o.elim
    | cons a t =>
      obtain ⟨w, ws, rfl, q, s⟩ := r.cons_inv
      refine ⟨w, ws, rfl, ρ, h, σ, a, R, S, q, ?_⟩
      dsimp only [gCons'] at o
      cases c : g a σ h with
      | none => rw [c] at o; exact o.elim
      | some p =>
        obtain ⟨σ1, h1⟩ := p
        rw [c] at o
        exact fun ρ1 τ1 H1 e1 R1 S1 => ⟨ρ1, h1, σ1, t, R1, S1, s.mono e1, OutG.later o e1⟩⟩
def gTup' (n : Nat) (g : AGs) : AG := fun x σ h => match x with
  | .tup xs => if xs.length = n then g xs σ h else none
  | _ => none
theorem jg_tup {es : List Expr} {k : Nat} {g : AGs} {n : Nat} {pos : Pos} (hc : X.calm = true) (h : JGs X es g) (hn : (assignEach es X.env).length = n := by rfl) (hst : (assignEach es X.env).findIdx? (·.1) = none := by rfl) : JG X (.Tuple es k pos) (gTup' n g) :=
  ⟨PGmono (pg_tup hc h.pgs hn hst) fun v τ H Q ⟨ρ, h, σ, y, R, S, r, o⟩ => by
    cases y with
    | tup xs =>
      obtain ⟨p, vs, rfl, f, q⟩ := r.tup_inv
      dsimp only [gTup'] at o
      split at o
      · rename_i hz
        exact ⟨p, vs, rfl, f.sq, by rw [q.len]; exact hz, ρ, h, σ, xs, R, S, q, o⟩
      · exact o.elim
    | _ => exact o.elim⟩
/-- xs[i] = v of a list -/
def gSubL (ao ai : AE) : AG := fun x σ h => match ao σ h with
  | .ok (.loc n) h1 => match ai σ h1 with
    | .ok (.int k) h2 => match h2[n]? with
      | some (.lst xs) => match ixN xs.length k with
        | some j => some (σ, h2.set n (.lst (xs.set j x)))
        | none => none
      | _ => none
    | _ => none
  | _ => none
theorem jg_subL {o i : Expr} {ao ai : AE} {pos : Pos} (ho : JE X (fun _ _ _ _ => False) o ao) (hi : JE X (fun _ _ _ _ => False) i ai)
    (ha : ∀ v, assign (.Subscript o i pos) X.env v = (do
      let ov ← holding [v] (eval o X.env)
      let iv ← holding [v, ov] (eval i X.env)
      standAt pos
      holding [v, ov, iv] (setItem ov iv v)
      release [v, ov, iv] []) := by intro _; rfl) : JG X (.Subscript o i pos) (gSubL ao ai) :=
  ⟨PGmono (pg_sub ho.pe hi.pe set_list ha) fun v τ H Q ⟨ρ, h, σ, y, R, S, r, o⟩ => by
    unfold gSubL at o
    cases c : ao σ h with
    | exc _ _ _ => rw [c] at o; exact o.elim
    | stuck => rw [c] at o; exact o.elim
    | ok a h1 =>
      rw [c] at o
      cases a with
      | loc n =>
        dsimp only at o
        refine ⟨ρ, h, σ, R, S, ?_⟩
        rw [c]
        intro ρ1 H1 x1 e1 R1 r1
        cases c2 : ai σ h1 with
        | exc _ _ _ => rw [c2] at o; exact o.elim
        | stuck => rw [c2] at o; exact o.elim
        | ok b h2 =>
          rw [c2] at o
          cases b with
          | int k =>
            dsimp only at o
            refine ⟨ρ1, h1, σ, R1, S.mono e1, ?_⟩
            rw [c2]
            intro ρ2 H2 x2 e2 R2 r2
            split at o
            · rename_i xs eh
              split at o
              · rename_i j ej
                obtain ⟨p, us, rfl, ep, e3, q⟩ := loc_lst R2 (r1.mono e2) eh
                have e02 := e1.trans e2
                refine ⟨p, us, k, j, rfl, r2.int_inv, e3, by rw [q.len]; exact ej, ?_⟩
                have x3 : Ext ρ2 H2 ρ2 (upd H2 p (.lst (us.set j v))) := .write ep (nfL e3)
                refine o ρ2 τ _ (e02.trans x3) (R2.write ep (nfL e3) ⟨us.set j v, upd_same, (q.set (r.mono e02)).mono x3⟩) ((S.mono e02).mono x3)
              · exact o.elim
            · exact o.elim
          | _ => exact o.elim
      | _ => exact o.elim⟩
def sAsg (m : AE) (g : AG) : AS := fun σ h => liftS (m σ h) σ fun x h1 => match g x σ h1 with
  | some (σ2, h2) => .fin .nx σ2 h2
  | none => .stuck
theorem OutS.g {ρ : List Addr} {H : Hp} {r : Option (ASt × AH)} {D : Ends} (o : OutS K W ρ H (match r with
  | some (σ2, h2) => .fin .nx σ2 h2
  | none => .stuck) D) : OutG K ρ H r D.nx := by
  cases r with
  | none => exact o.elim
  | some p => exact o
theorem js_asg {tg e : Expr} {m : AE} {g : AG} {pos : Pos} (he : JE X W e m) (hg : JG X tg g) (hs : swapsWithSole [tg] e pos.line X.env = pure false := by rfl) (hw : swappedStores [tg] e X.env = pure none := by rfl)
    (h1 : (assignEach [tg] X.env).map (·.2) = [assign tg X.env] := by rfl) : JS X W (.Assign [tg] e pos) (sAsg m g) :=
  ⟨PSmono (ps_asg he.pe hg.pg hs hw h1) fun D τ H ⟨ρ, h, σ, R, S, o⟩ => ⟨ρ, h, σ, R, S, (OutS.lift (R := RV (cxKW X)) S o).mono fun x H1 ⟨ρ1, v, h1, e1, R1, q1, o1⟩ =>
    ⟨ρ1, h1, σ, v, R1, S.mono e1, q1, OutS.g o1⟩⟩⟩
/-- name = e -/
def sSet (i : Nat) (m : AE) : AS := fun σ h => liftS (m σ h) σ fun x h1 => .fin .nx (σ.set i (some x)) h1
theorem js_set (i : Nat) {x : Str} {e : Expr} {m : AE} {pos pos' : Pos} (hN : X.N.Nodup) (he : JE X W e m) (hi : X.N[i]? = some x := by rfl) (hx : Loc X.env.scope x := by first | exact Or.inl rfl | exact Or.inr rfl) (hs : swapsWith e (some (.Name x pos')) pos.line X.env = pure false := by rfl)
    (hf : X.fn x = true ∨ X.env.scope.names.lookup x = some .local := by first | exact .inl rfl | exact .inr rfl) : JS X W (.Assign [.Name x pos'] e pos) (sSet i m) :=
  ⟨PSmono (ps_set (i := i) hN hi hx he.pe hs hf) fun D τ H ⟨ρ, h, σ, R, S, o⟩ => ⟨ρ, h, σ, R, S, (OutS.lift (R := RV (cxKW X)) S o).mono fun x H1 ⟨ρ1, v, h1, e1, R1, q1, o1⟩ =>
    o1 ρ1 _ H1 .refl R1 ((S.mono e1).set i q1)⟩⟩
/-- name += e, ints -/
def fIAdd : F2 := fI0 fun i j => .int (i + j)
def fISub : F2 := fI0 fun i j => .int (i - j)
structure JIp (X : Cx) (op : Operator) (f : F2) : Prop where
  ex : ∃ r, PIp X op r ∧ OpA (cxKW X) r f
theorem j_iadd : JIp X .Add fIAdd := ⟨_, ip_add, fun ρ h H τ W x y v u Q R r1 r2 o => by
  cases v with
  | int i =>
    cases u with
    | int j => exact ⟨i, j, r1.int_inv, r2.int_inv, Out.done o R (.int _)⟩
    | _ => exact o.elim
  | _ => exact o.elim⟩
theorem j_isub : JIp X .Sub fISub := ⟨_, ip_sub, fun ρ h H τ W x y v u Q R r1 r2 o => by
  cases v with
  | int i =>
    cases u with
    | int j => exact ⟨i, j, r1.int_inv, r2.int_inv, Out.done o R (.int _)⟩
    | _ => exact o.elim
  | _ => exact o.elim⟩
def sAug (i : Nat) (f : F2) (m : AE) : AS := fun σ h => match σ[i]? with
  | some (some x) => liftS (m σ h) σ fun y h1 => liftS (f x y h1) σ fun z h2 => .fin .nx (σ.set i (some z)) h2
  | _ => .stuck
theorem js_aug (i : Nat) {op : Operator} {f : F2} {x : Str} {e : Expr} {m : AE} {pos pos' : Pos} (hN : X.N.Nodup) (ho : JIp X op f) (he : JE X W e m) (hi : X.N[i]? = some x := by rfl) (hx : Loc X.env.scope x := by first | exact Or.inl rfl | exact Or.inr rfl)
    (hf : X.fn x = true ∨ X.env.scope.names.lookup x = some .local := by first | exact .inl rfl | exact .inr rfl) : JS X W (.AugAssign (.Name x pos') op e pos) (sAug i f m) := by
  obtain ⟨r, h1, h2⟩ := ho.ex
  refine ⟨PSmono (ps_aug (i := i) hN hi hx he.pe h1 hf) fun D τ H ⟨ρ, h, σ, R, S, o⟩ => ?_⟩
  unfold sAug at o
  split at o
  · rename_i x' ex
    obtain ⟨v, ev, rv⟩ := S.at_ i x' ex
    refine ⟨v, ev, ρ, h, σ, R, S, (OutS.lift (R := RV (cxKW X)) S o).mono fun y H1 ⟨ρ1, u, h1, e1, R1, q1, o1⟩ => ?_⟩
    refine h2 ρ1 h1 H1 τ W v y x' u _ R1 (rv.mono e1) q1 ((OutS.lift (R := RV (cxKW X)) (S.mono e1) o1).mono fun z H2 ⟨ρ2, w, h2, e2, R2, q2, o2⟩ => ?_)
    exact o2 ρ2 _ H2 .refl R2 (((S.mono e1).mono e2).set i q2)
  · exact o.elim
end
end AB

/-! AB6: loops, comprehensions, defs -/
namespace AB
open PySem PySem.Spec
open PyProof.Rows hiding St
open L2
section
variable {X : Cx} {W : WX} {K : KW}
/-! ### what a for walks -/
/-- at most n turns; at turn i over the heap h: none: not known; some none: the end; some (some x): x comes -/
structure AI where
  n : Nat
  nxt : Nat → AH → Option (Option PV)
def AIok (K : KW) (ρ0 : List Addr) (H0 : Hp) (a : AI) (J : It) : Prop := ∀ (i : Nat) (ρ : List Addr) (h : AH) (H : Hp), Ext ρ0 H0 ρ H → Rep K ρ h H → match a.nxt i h with
  | none => True
  | some none => J.stop i H
  | some (some x) => J.go i H ∧ ∀ v H', J.yld i H v H' → Ext ρ H ρ H' ∧ Rep K ρ h H' ∧ RV K ρ H' x v
abbrev AIt := ASt → AH → Res AI
def LI (K : KW) (W : WX) (m : AIt) : TI := fun τ H R => ∃ ρ h σ, Rep K ρ h H ∧ RS K ρ H σ τ ∧ Out K W (AIok K) ρ τ H (m σ h) R
structure JI (X : Cx) (W : WX) (tg iter : Expr) (m : AIt) : Prop where
  pi : PI X tg iter (LI (cxKW X) W m)
theorem PImono {tg iter : Expr} {t t' : TI} (p : PI X tg iter t) (i : ∀ σ H R, t' σ H R → t σ H R) : PI X tg iter t' := ⟨fun pins s σ H R I h => p.run pins s σ H R I (i σ H R h)⟩
def itVals (xs : List PV) : AI := ⟨xs.length, fun i _ => some xs[i]?⟩
def itLive (v : PV) (n : Nat) : AI := ⟨n, fun i h => (lstOf v h).map fun xs => xs[i]?⟩
/-- a list: by its number live, else by its items -/
def itL (v : PV) (h : AH) : Res AI := match lstOf v h with
  | some xs => match v with
    | .loc _ => .ok (itLive v xs.length) h
    | _ => .ok (itVals xs) h
  | none => .stuck
def aItL (m : AE) : AIt := fun σ h => (m σ h).bind itL
theorem ext_lst {ρ ρ' : List Addr} {H H' : Hp} {p : Addr} {vs : List V} (f : FxR K ρ H p vs) (e : Ext ρ H ρ' H') : SqL K.fr H' p vs := (f.mono e).sq
theorem SqL_inj_of {ρ : List Addr} {h : AH} {H : Hp} {v : PV} {p : Addr} {xs : List PV} (R : Rep K ρ h H) (r : RV K ρ H v (.ref p)) (e : lstOf v h = some xs) : ∃ vs, SqL K.fr H p vs ∧ RVs K ρ H xs vs := by
  obtain ⟨q, vs, e1, s, t⟩ := lst_of R r e
  cases e1; exact ⟨vs, s, t⟩
theorem aiok_lst {ρ0 : List Addr} {H0 : Hp} {v : PV} {p : Addr} {n : Nat} (r : RV K ρ0 H0 v (.ref p)) : AIok K ρ0 H0 (itLive v n) (Itl K.fr p) := fun i ρ h H e R => by
  have r1 := r.mono e
  unfold itLive
  dsimp only
  cases c : lstOf v h with
  | none => trivial
  | some xs =>
    obtain ⟨vs, s, q⟩ := SqL_inj_of R r1 c
    show match some xs[i]? with | none => True | some none => _ | some (some x) => _
    cases ci : xs[i]? with
    | none => exact ⟨vs, s, by rw [q.len]; exact List.getElem?_eq_none_iff.mp ci⟩
    | some x =>
      obtain ⟨w, ew, qw⟩ := q.get ci
      exact ⟨⟨vs, w, s, ew⟩, fun u H' ⟨e1, f⟩ => by
        subst e1
        have := f vs s
        rw [ew] at this; cases this
        exact ⟨.refl, R, qw⟩⟩
theorem aiok_vals {ρ0 : List Addr} {H0 : Hp} {v : PV} {p : Addr} {xs : List PV} (r : RV K ρ0 H0 v (.ref p)) (h0 : ∀ h, lstOf v h = some xs) : AIok K ρ0 H0 (itVals xs) (Itl K.fr p) := fun i ρ h H e R => by
  have q := aiok_lst (n := 0) r i ρ h H e R
  unfold itLive at q
  dsimp only at q
  rw [h0 h] at q
  exact q
theorem ji_list {tg l : Expr} {m : AE} (hl : JE X W l m) : JI X W tg l (aItL m) :=
  ⟨PImono (pi_list hl.pe) fun τ H Rk ⟨ρ, h, σ, R, S, o⟩ => ⟨ρ, h, σ, R, S, (Out.bind (R := RV (cxKW X)) o).mono fun x H1 ⟨ρ1, v, h1, e1, R1, q1, o1⟩ => by
    unfold itL at o1
    split at o1
    · rename_i xs c
      obtain ⟨p, vs, rfl, s, q⟩ := lst_of R1 q1 c
      refine ⟨p, rfl, ⟨vs, s⟩, ?_⟩
      split at o1
      · exact Out.done o1 R1 (aiok_lst q1)
      · rename_i hv
        refine Out.done o1 R1 (aiok_vals q1 fun h => ?_)
        cases v with
        | lst ys => exact c
        | ro ys => exact c
        | loc n => exact absurd rfl (hv n)
        | _ => cases c
    · exact o1.elim⟩⟩
def aItT (m : AE) : AIt := fun σ h => (m σ h).bind fun x h1 => match x with
  | .tup xs => .ok (itVals xs) h1
  | _ => .stuck
theorem ji_tup {tg l : Expr} {m : AE} (hl : JE X W l m) : JI X W tg l (aItT m) :=
  ⟨PImono (pi_tup hl.pe) fun τ H Rk ⟨ρ, h, σ, R, S, o⟩ => ⟨ρ, h, σ, R, S, (Out.bind (R := RV (cxKW X)) o).mono fun x H1 ⟨ρ1, v, h1, e1, R1, q1, o1⟩ => by
    cases v with
    | tup xs =>
      obtain ⟨p, vs, rfl, f, q⟩ := q1.tup_inv
      refine ⟨p, rfl, ⟨vs, f.sq⟩, Out.done o1 R1 fun i ρ2 h2 H2 e2 R2 => ?_⟩
      have f2 := (f.mono e2).sq
      have q2 := q.mono e2
      show match some xs[i]? with | none => True | some none => _ | some (some x) => _
      cases ci : xs[i]? with
      | none => exact ⟨vs, f2, by rw [q.len]; exact List.getElem?_eq_none_iff.mp ci⟩
      | some x =>
        obtain ⟨w, ew, qw⟩ := q2.get ci
        exact ⟨⟨vs, w, f2, ew⟩, fun u H' ⟨e1, f⟩ => by
          subst e1
          have := f vs f2
          rw [ew] at this; cases this
          exact ⟨.refl, R2, qw⟩⟩
    | _ => exact o1.elim⟩⟩
/-- range(n), range(a, b) -/
def itRg (lo : Int) (n : Nat) : AI := ⟨n, fun i _ => if i < n then some (some (.int (lo + i))) else some none⟩
theorem aiok_rg {ρ0 : List Addr} {H0 : Hp} (lo : Int) (n : Nat) : AIok K ρ0 H0 (itRg lo n) (Itr lo n) := fun i ρ h H e R => by
  unfold itRg
  dsimp only
  by_cases c : i < n
  · rw [if_pos c]
    exact ⟨c, fun v H' ⟨e1, e2⟩ => by subst e1; subst e2; exact ⟨.refl, R, .int _⟩⟩
  · rw [if_neg c]
    show n ≤ i
    omega
def aItR1 (l : AL) : AIt := fun σ h => (l σ h).bind fun xs h1 => match xs with
  | [.int j] => if -(2 ^ 62) ≤ j ∧ j < 2 ^ 62 then .ok (itRg 0 j.toNat) h1 else .stuck
  | _ => .stuck
def aItR2 (l : AL) : AIt := fun σ h => (l σ h).bind fun xs h1 => match xs with
  | [.int i, .int j] => if -(2 ^ 62) ≤ i ∧ i < 2 ^ 62 ∧ -(2 ^ 62) ≤ j ∧ j < 2 ^ 62 then .ok (itRg i (j - i).toNat) h1 else .stuck
  | _ => .stuck
theorem ji_rg1 {tg a : Expr} {l : AL} {p pos : Pos} (hm : X.mg "range" = none) (ha : JA X W [a] l) (hg : Gl X "range" := by rfl) (hs : starEach [a] X.env = [(false, eval a X.env)] := by rfl) : JI X W tg (.Call (.Name "range" p) [a] [] pos) (aItR1 l) :=
  ⟨PImono (pi_range1 hg hm ha.pa hs) fun τ H Rk ⟨ρ, h, σ, R, S, o⟩ => ⟨ρ, h, σ, R, S, (Out.bind (R := RVs (cxKW X)) o).mono fun x H1 ⟨ρ1, v, h1, e1, R1, q1, o1⟩ => by
    split at o1
    · rename_i j
      split at o1
      · rename_i c
        obtain ⟨w, rfl, q⟩ := one_inv q1
        exact ⟨j, by rw [q.int_inv], c.1, c.2, Out.done o1 R1 (aiok_rg _ _)⟩
      · exact o1.elim
    · exact o1.elim⟩⟩
theorem ji_rg2 {tg a b : Expr} {l : AL} {p pos : Pos} (hm : X.mg "range" = none) (ha : JA X W [a, b] l) (hg : Gl X "range" := by rfl) (hs : starEach [a, b] X.env = [(false, eval a X.env), (false, eval b X.env)] := by rfl) (hs2 : starEach [b] X.env = [(false, eval b X.env)] := by rfl) :
    JI X W tg (.Call (.Name "range" p) [a, b] [] pos) (aItR2 l) :=
  ⟨PImono (pi_range2 hg hm ha.pa hs hs2) fun τ H Rk ⟨ρ, h, σ, R, S, o⟩ => ⟨ρ, h, σ, R, S, (Out.bind (R := RVs (cxKW X)) o).mono fun x H1 ⟨ρ1, v, h1, e1, R1, q1, o1⟩ => by
    split at o1
    · rename_i i j
      split at o1
      · rename_i c
        obtain ⟨w, w', rfl, q, q'⟩ := two_inv q1
        exact ⟨i, j, by rw [q.int_inv, q'.int_inv], c, Out.done o1 R1 (aiok_rg _ _)⟩
      · exact o1.elim
    · exact o1.elim⟩⟩
/-- enumerate(list) -/
def itEnum (a : AI) : AI := ⟨a.n, fun i h => (a.nxt i h).map fun o => o.map fun x => .tup [.int (i : Nat), x]⟩
def aItE (l : AL) : AIt := fun σ h => (l σ h).bind fun xs h1 => match xs with
  | [v] => (itL v h1).bind fun a h2 => .ok (itEnum a) h2
  | _ => .stuck
theorem tup2_ok {ρ : List Addr} {h : AH} {H : Hp} {T : Addr} {x y : PV} {v w : V} (R : Rep K ρ h H) (hT : H T = none) (r1 : RV K ρ H x v) (r2 : RV K ρ H y w) :
    Ext ρ H ρ (upd H T (.tup [v, w])) ∧ Rep K ρ h (upd H T (.tup [v, w])) ∧ RV K ρ (upd H T (.tup [v, w])) (.tup [x, y]) (.ref T) :=
  ⟨.fresh hT, R.fresh hT, .tup [v, w] (.inl ⟨.inl upd_same, R.notin hT⟩) rfl ((RVs.cons r1 (.cons r2 .nil)).mono (.fresh hT)).at_⟩
theorem aiok_enum {ρ0 : List Addr} {H0 : Hp} {a : AI} {p : Addr} (k : AIok K ρ0 H0 a (Itl K.fr p)) : AIok K ρ0 H0 (itEnum a) (Ite K.fr p) := fun i ρ h H e R => by
  have q := k i ρ h H e R
  unfold itEnum
  dsimp only
  cases c : a.nxt i h with
  | none => trivial
  | some o =>
    rw [c] at q
    cases o with
    | none => exact q
    | some x =>
      obtain ⟨⟨xs, y, s, ey⟩, g⟩ := q
      refine ⟨⟨xs, y, s, ey⟩, fun v H' ⟨T, z, e1, hT, e2, f⟩ => ?_⟩
      have ez := f xs s
      rw [ey] at ez; cases ez
      obtain ⟨_, _, rz⟩ := g y H ⟨rfl, fun xs' s' => f xs' s'⟩
      subst e1; subst e2
      exact tup2_ok R hT (.int _) rz
theorem ji_enum {elts : List Expr} {kk : Nat} {tpos p pos : Pos} {e : Expr} {l : AL} (hm : X.mg "enumerate" = none) (ha : JA X W [e] l) (hg : Gl X "enumerate" := by rfl) (hs : starEach [e] X.env = [(false, eval e X.env)] := by rfl) :
    JI X W (.Tuple elts kk tpos) (.Call (.Name "enumerate" p) [e] [] pos) (aItE l) :=
  ⟨PImono (pi_enum hg hm ha.pa hs) fun τ H Rk ⟨ρ, h, σ, R, S, o⟩ => ⟨ρ, h, σ, R, S, (Out.bind (R := RVs (cxKW X)) o).mono fun x H1 ⟨ρ1, v, h1, e1, R1, q1, o1⟩ => by
    split at o1
    · rename_i v
      obtain ⟨w, rfl, q⟩ := one_inv q1
      unfold itL at o1
      split at o1
      · rename_i xs c
        obtain ⟨p, vs, rfl, s, _⟩ := lst_of R1 q c
        refine ⟨p, vs, rfl, s, ?_⟩
        split at o1
        · exact Out.done o1 R1 (aiok_enum (aiok_lst q))
        · rename_i hv
          refine Out.done o1 R1 (aiok_enum (aiok_vals q fun h => ?_))
          cases v with
          | lst ys => exact c
          | ro ys => exact c
          | loc n => exact absurd rfl (hv n)
          | _ => cases c
      · exact o1.elim
    · exact o1.elim⟩⟩
/-! ### for -/
def forA (a : AI) (g : AG) (body : AS) : Nat → Nat → AS
  | n, i => fun σ h => match a.nxt i h with
    | none => .stuck
    | some none => .fin .nx σ h
    | some (some x) => match n with
      | 0 => .stuck
      | n + 1 => match g x σ h with
        | none => .stuck
        | some (σ1, h1) => match body σ1 h1 with
          | .fin .nx σ2 h2 => forA a g body n (i + 1) σ2 h2
          | .fin .ct σ2 h2 => forA a g body n (i + 1) σ2 h2
          | .fin .bk σ2 h2 => .fin .nx σ2 h2
          | r => r
def sFor (m : AIt) (g : AG) (body : AS) : AS := fun σ h => liftS (m σ h) σ fun a h1 => forA a g body a.n 0 σ h1
theorem js_for {tg iter : Expr} {m : AIt} {g : AG} {body : List Stmt} {mb : AS} {pos : Pos} (hp : PassesOwn (model X.prog X.w) X.A X.env X.xe) (hc : X.calm = true) (hi : JI X W tg iter m) (hg : JG X tg g) (hb : JSs X W body mb)
    (hs : ∀ x, foldedSetIterable iter X.env x = pure x := by intro _; rfl) : JS X W (.For tg iter body [] pos) (sFor m g mb) := by
  refine ⟨PSmono (ps_for hp hc hi.pi hg.pg hb.pss hs) fun D τ H ⟨ρ, h, σ, R, S, o⟩ => ⟨ρ, h, σ, R, S, (OutS.lift (R := AIok (cxKW X)) S o).mono fun J H1 ⟨ρ1, a, h1, e1, R1, q1, o1⟩ => ?_⟩⟩
  refine ⟨fun i n τ H => ∃ ρ h σ, Ext ρ1 H1 ρ H ∧ Rep (cxKW X) ρ h H ∧ RS (cxKW X) ρ H σ τ ∧ OutS (cxKW X) W ρ H (forA a g mb n i σ h) D, ⟨a.n, ρ1, h1, σ, .refl, R1, S.mono e1, o1⟩, ?_⟩
  rintro i n τ2 H2 ⟨ρ2, h2, σ2, e2, R2, S2, o2⟩
  have q2 := q1 i ρ2 h2 H2 e2 R2
  unfold forA at o2
  cases c : a.nxt i h2 with
  | none => rw [c] at o2; exact o2.elim
  | some ox =>
    rw [c] at o2 q2
    cases ox with
    | none => exact .inl ⟨q2, o2 ρ2 τ2 H2 .refl R2 S2⟩
    | some x =>
      cases n with
      | zero => exact o2.elim
      | succ n =>
        refine .inr ⟨q2.1, fun τ H => ∃ ρ h σ, Ext ρ1 H1 ρ H ∧ Rep (cxKW X) ρ h H ∧ RS (cxKW X) ρ H σ τ ∧ OutS (cxKW X) W ρ H (forA a g mb n (i + 1) σ h) D, fun τ' H' k => ⟨n, Nat.lt_succ_self _, k⟩, fun v H3 y => ?_⟩
        obtain ⟨e3, R3, r3⟩ := q2.2 v H3 y
        have S3 := S2.mono e3
        refine ⟨ρ2, h2, σ2, x, R3, S3, r3, ?_⟩
        dsimp only at o2
        cases cg : g x σ2 h2 with
        | none => rw [cg] at o2; exact o2.elim
        | some p =>
          obtain ⟨σ4, h4⟩ := p
          rw [cg] at o2
          intro ρ4 τ4 H4 e4 R4 S4
          refine ⟨ρ4, h4, σ4, R4, S4, ?_⟩
          have e04 : Ext ρ1 H1 ρ4 H4 := e2.trans (e3.trans e4)
          dsimp only at o2
          cases cb : mb σ4 h4 with
          | fin f σ5 h5 =>
            rw [cb] at o2
            cases f with
            | nx => exact fun ρ5 τ5 H5 e5 R5 S5 => ⟨ρ5, h5, σ5, e04.trans e5, R5, S5, OutS.later o2 (e3.trans (e4.trans e5))⟩
            | ct => exact fun ρ5 τ5 H5 e5 R5 S5 => ⟨ρ5, h5, σ5, e04.trans e5, R5, S5, OutS.later o2 (e3.trans (e4.trans e5))⟩
            | bk => exact fun ρ5 τ5 H5 e5 R5 S5 => o2 ρ5 τ5 H5 (e3.trans (e4.trans e5)) R5 S5
            | rt v => exact fun ρ5 τ5 H5 e5 R5 S5 => o2 ρ5 τ5 H5 (e3.trans (e4.trans e5)) R5 S5
          | exc cc fs σ5 h5 => rw [cb] at o2; exact fun ρ5 τ5 H5 d e5 R5 S5 xd => o2 ρ5 τ5 H5 d (e3.trans (e4.trans e5)) R5 S5 xd
          | stuck => rw [cb] at o2; exact o2.elim
/-! ### while -/
def whileF (c : AT) (body : AS) : Nat → AS
  | 0 => fun _ _ => .stuck
  | n + 1 => fun σ h => liftS (c σ h) σ fun x h1 => if x = true then (match body σ h1 with
    | .fin .nx σ2 h2 => whileF c body n σ2 h2
    | .fin .ct σ2 h2 => whileF c body n σ2 h2
    | .fin .bk σ2 h2 => .fin .nx σ2 h2
    | r => r) else .fin .nx σ h1
theorem whileF_s (c : AT) (body : AS) (n : Nat) (σ : ASt) (h : AH) : whileF c body (n + 1) σ h = liftS (c σ h) σ fun x h1 => if x = true then (match body σ h1 with
    | .fin .nx σ2 h2 => whileF c body n σ2 h2
    | .fin .ct σ2 h2 => whileF c body n σ2 h2
    | .fin .bk σ2 h2 => .fin .nx σ2 h2
    | r => r) else .fin .nx σ h1 := rfl
theorem whileF_more (c : AT) (body : AS) : ∀ (n : Nat) (σ : ASt) (h : AH) (r : SRes), whileF c body n σ h = r → r ≠ .stuck → whileF c body (n + 1) σ h = r
  | 0, σ, h, r, e, ne => absurd e.symm ne
  | n + 1, σ, h, r, e, ne => by
    rw [whileF_s] at e ⊢
    cases cc : c σ h with
    | exc _ _ _ => rw [cc] at e; exact e
    | stuck => rw [cc] at e; exact e
    | ok x h1 =>
      rw [cc] at e
      simp only [liftS_ok] at e ⊢
      cases x with
      | false => exact e
      | true =>
        rw [if_pos rfl] at e ⊢
        cases cb : body σ h1 with
        | stuck => rw [cb] at e; exact e
        | exc _ _ _ _ => rw [cb] at e; exact e
        | fin f σ2 h2 =>
          rw [cb] at e
          cases f with
          | nx => exact whileF_more c body n σ2 h2 r e ne
          | ct => exact whileF_more c body n σ2 h2 r e ne
          | bk => exact e
          | rt v => exact e
theorem whileF_le (c : AT) (body : AS) {n m : Nat} (hm : n ≤ m) {σ : ASt} {h : AH} {r : SRes} (e : whileF c body n σ h = r) (ne : r ≠ .stuck) : whileF c body m σ h = r := by
  induction m with
  | zero => have : n = 0 := by omega
            subst this; exact e
  | succ m ih =>
    by_cases hh : n = m + 1
    · subst hh; exact e
    · exact whileF_more c body m σ h r (ih (by omega)) ne
open Classical in
noncomputable def sWhile (c : AT) (body : AS) : AS := fun σ h => if ex : ∃ n, whileF c body n σ h ≠ .stuck then whileF c body ex.choose σ h else .stuck
theorem sWhile_of {c : AT} {body : AS} {n : Nat} {σ : ASt} {h : AH} {r : SRes} (e : whileF c body n σ h = r) (ne : r ≠ .stuck) : sWhile c body σ h = r := by
  have ex : ∃ n, whileF c body n σ h ≠ .stuck := ⟨n, by rw [e]; exact ne⟩
  unfold sWhile
  rw [dif_pos ex]
  have h1 := whileF_le c body (Nat.le_max_left ex.choose n) rfl ex.choose_spec
  have h2 := whileF_le c body (Nat.le_max_right ex.choose n) e ne
  exact h1.symm.trans h2
theorem sWhile_ex {c : AT} {body : AS} {σ : ASt} {h : AH} (ne : sWhile c body σ h ≠ .stuck) : ∃ n, whileF c body n σ h = sWhile c body σ h := by
  unfold sWhile at ne ⊢
  split at ne
  · rename_i ex
    rw [dif_pos ex]; exact ⟨_, rfl⟩
  · exact absurd rfl ne
/-- one turn -/
theorem sWhile_eq (c : AT) (body : AS) (σ : ASt) (h : AH) : sWhile c body σ h = liftS (c σ h) σ fun x h1 => if x = true then (match body σ h1 with
    | .fin .nx σ2 h2 => sWhile c body σ2 h2
    | .fin .ct σ2 h2 => sWhile c body σ2 h2
    | .fin .bk σ2 h2 => .fin .nx σ2 h2
    | r => r) else .fin .nx σ h1 := by
  generalize hr : (liftS (c σ h) σ fun x h1 => if x = true then (match body σ h1 with
    | .fin .nx σ2 h2 => sWhile c body σ2 h2
    | .fin .ct σ2 h2 => sWhile c body σ2 h2
    | .fin .bk σ2 h2 => SRes.fin .nx σ2 h2
    | r => r) else SRes.fin .nx σ h1) = r
  by_cases ne : r = .stuck
  · rw [ne] at hr ⊢
    apply Classical.byContradiction
    intro nn
    obtain ⟨n, en⟩ := sWhile_ex nn
    cases n with
    | zero => exact nn en.symm
    | succ n =>
      rw [whileF_s] at en
      cases cc : c σ h with
      | exc _ _ _ => rw [cc] at en hr; rw [← en] at nn; exact nn hr
      | stuck => rw [cc] at en hr; rw [← en] at nn; exact nn rfl
      | ok x h1 =>
        rw [cc] at en hr
        simp only [liftS_ok] at en hr
        cases x with
        | false => cases hr
        | true =>
          rw [if_pos rfl] at en hr
          cases cb : body σ h1 with
          | stuck => rw [cb] at en; exact nn en.symm
          | exc _ _ _ _ => rw [cb] at hr; cases hr
          | fin f σ2 h2 =>
            rw [cb] at en hr
            cases f with
            | nx =>
              dsimp only at en hr
              have := sWhile_of en nn
              rw [hr] at this; exact nn this.symm
            | ct =>
              dsimp only at en hr
              have := sWhile_of en nn
              rw [hr] at this; exact nn this.symm
            | bk => cases hr
            | rt v => cases hr
  · have key : ∃ n, whileF c body n σ h = r := by
      cases cc : c σ h with
      | exc a b d => rw [cc] at hr; exact ⟨1, by rw [whileF_s, cc]; exact hr⟩
      | stuck => rw [cc] at hr; exact absurd hr.symm ne
      | ok x h1 =>
        rw [cc] at hr
        simp only [liftS_ok] at hr
        cases x with
        | false => exact ⟨1, by rw [whileF_s, cc]; exact hr⟩
        | true =>
          rw [if_pos rfl] at hr
          cases cb : body σ h1 with
          | stuck => rw [cb] at hr; exact absurd hr.symm ne
          | exc a b d e => rw [cb] at hr; exact ⟨1, by rw [whileF_s, cc, liftS_ok, if_pos rfl, cb]; exact hr⟩
          | fin f σ2 h2 =>
            rw [cb] at hr
            cases f with
            | nx =>
              dsimp only at hr
              obtain ⟨n, en⟩ := sWhile_ex (c := c) (body := body) (σ := σ2) (h := h2) (by rw [hr]; exact ne)
              exact ⟨n + 1, by rw [whileF_s, cc, liftS_ok, if_pos rfl, cb]; exact en.trans hr⟩
            | ct =>
              dsimp only at hr
              obtain ⟨n, en⟩ := sWhile_ex (c := c) (body := body) (σ := σ2) (h := h2) (by rw [hr]; exact ne)
              exact ⟨n + 1, by rw [whileF_s, cc, liftS_ok, if_pos rfl, cb]; exact en.trans hr⟩
            | bk => exact ⟨1, by rw [whileF_s, cc, liftS_ok, if_pos rfl, cb]; exact hr⟩
            | rt v => exact ⟨1, by rw [whileF_s, cc, liftS_ok, if_pos rfl, cb]; exact hr⟩
    obtain ⟨n, en⟩ := key
    exact sWhile_of en ne
theorem js_while {c : Expr} {body : List Stmt} {mc : AT} {mb : AS} {pos : Pos} (hp : PassesOwn (model X.prog X.w) X.A X.env X.xe) (hc : JT X W c mc) (hb : JSs X W body mb) : JS X W (.While c body [] pos) (sWhile mc mb) := by
  refine ⟨PSmono (ps_while hp hc.pt hb.pss) fun D τ H ⟨ρ, h, σ, R, S, o⟩ => ?_⟩
  have nn : sWhile mc mb σ h ≠ .stuck := fun z => by rw [z] at o; exact o
  obtain ⟨n0, en⟩ := sWhile_ex nn
  refine ⟨fun n τ H => ∃ ρ h σ, Rep (cxKW X) ρ h H ∧ RS (cxKW X) ρ H σ τ ∧ OutS (cxKW X) W ρ H (whileF mc mb n σ h) D, ⟨n0, ρ, h, σ, R, S, by rw [en]; exact o⟩, ?_⟩
  rintro n τ2 H2 ⟨ρ2, h2, σ2, R2, S2, o2⟩
  cases n with
  | zero => exact o2.elim
  | succ n =>
    rw [whileF_s] at o2
    refine ⟨ρ2, h2, σ2, R2, S2, (OutS.lift (R := fun _ _ (a b : Bool) => a = b) S2 o2).mono fun x H3 ⟨ρ3, v, h3, e3, R3, q3, o3⟩ => ?_⟩
    subst q3
    cases v with
    | false => rw [if_neg Bool.false_ne_true] at o3 ⊢; exact o3 ρ3 τ2 H3 .refl R3 (S2.mono e3)
    | true =>
      rw [if_pos rfl] at o3 ⊢
      refine ⟨fun τ H => ∃ ρ h σ, Rep (cxKW X) ρ h H ∧ RS (cxKW X) ρ H σ τ ∧ OutS (cxKW X) W ρ H (whileF mc mb n σ h) D, fun τ' H' k => ⟨n, Nat.lt_succ_self _, k⟩, ρ3, h3, σ2, R3, S2.mono e3, ?_⟩
      cases cb : mb σ2 h3 with
      | stuck => rw [cb] at o3; exact o3.elim
      | exc cc fs σ5 h5 => rw [cb] at o3; exact o3
      | fin f σ5 h5 =>
        rw [cb] at o3
        cases f with
        | nx => exact fun ρ5 τ5 H5 e5 R5 S5 => ⟨ρ5, h5, σ5, R5, S5, OutS.later o3 e5⟩
        | ct => exact fun ρ5 τ5 H5 e5 R5 S5 => ⟨ρ5, h5, σ5, R5, S5, OutS.later o3 e5⟩
        | bk => exact o3
        | rt v => exact o3
end
end AB

/-! AB7: comprehensions, defs, calls -/
namespace AB
open PySem PySem.Spec
open PyProof.Rows hiding St
open L2
section
variable {X : Cx} {W : WX} {K : KW}
abbrev W0 : WX := fun _ _ _ _ => False
/-! ### targets that change some slots alone -/
structure JGw (X : Cx) (vs : List Nat) (tg : Expr) (g : AG) : Prop where
  pg : PG X tg (fun v τ H Q => ∃ ρ h σ x, Rep (cxKW X) ρ h H ∧ RS (cxKW X) ρ H σ τ ∧ RV (cxKW X) ρ H x v ∧ OutG (cxKW X) ρ H (g x σ h) fun τ' H' => wipe τ' vs = wipe τ vs → Q τ' H')
structure JGsw (X : Cx) (vs : List Nat) (ts : List Expr) (g : AGs) : Prop where
  pgs : PGs X ts (fun v τ H Q => ∃ ρ h σ x, Rep (cxKW X) ρ h H ∧ RS (cxKW X) ρ H σ τ ∧ RVs (cxKW X) ρ H x v ∧ OutG (cxKW X) ρ H (g x σ h) fun τ' H' => wipe τ' vs = wipe τ vs → Q τ' H')
theorem wipe_comm (σ : St) (i : Nat) (o : Option V) : ∀ (vs : List Nat), i ∈ vs → wipe (σ.set i o) vs = wipe σ vs
  | [], h => by simp at h
  | v :: vs, h => by
    show (wipe (σ.set i o) vs).set v none = (wipe σ vs).set v none
    by_cases e : i ∈ vs
    · rw [wipe_comm σ i o vs e]
    · have ev : i = v := by
        rcases List.mem_cons.mp h with z | z
        · exact z
        · exact absurd z e
      subst ev
      have : ∀ (us : List Nat), i ∉ us → wipe (σ.set i o) us = (wipe σ us).set i o := by
        intro us
        induction us with
        | nil => intro _; rfl
        | cons u us ih =>
          intro hu
          show (wipe (σ.set i o) us).set u none = ((wipe σ us).set u none).set i o
          rw [ih (fun z => hu (List.mem_cons_of_mem _ z)), List.set_comm _ _ (fun z => hu (by rw [z]; exact List.mem_cons_self))]
      rw [this vs e, List.set_set]
theorem jgw_name (i : Nat) {vs : List Nat} {x : Str} {pos : Pos} (hN : X.N.Nodup) (hv : i ∈ vs := by decide) (hi : X.N[i]? = some x := by rfl) (hx : Loc X.env.scope x := by first | exact Or.inl rfl | exact Or.inr rfl) (hf : X.fn x = true ∨ X.env.scope.names.lookup x = some .local := by first | exact .inl rfl | exact .inr rfl) : JGw X vs (.Name x pos) (gN i) :=
  ⟨PGmono (pg_name (i := i) hN hi hx hf) fun v τ H Q ⟨ρ, h, σ, y, R, S, r, o⟩ => o ρ _ H .refl R (S.set i r) (wipe_comm τ i _ vs hv)⟩
theorem jgsw_nil {vs : List Nat} : JGsw X vs [] gNil' := ⟨PGsmono pgs_nil fun v τ H Q ⟨ρ, h, σ, y, R, S, r, o⟩ => by
  cases y with
  | nil => exact ⟨r.nil_inv, o ρ τ H .refl R S rfl⟩
  | cons a t => exact o.elim⟩
theorem jgsw_cons {vs : List Nat} {e : Expr} {es : List Expr} {g : AG} {u : AGs} (h1 : JGw X vs e g) (h2 : JGsw X vs es u) (hs : (assignEach (e :: es) X.env).map (·.2) = assign e X.env :: (assignEach es X.env).map (·.2) := by rfl) : JGsw X vs (e :: es) (gCons' g u) :=
  ⟨PGsmono (pgs_cons h1.pg h2.pgs hs) fun v τ H Q ⟨ρ, h, σ, y, R, S, r, o⟩ => by
    cases y with
    | nil => exact o.elim
    | cons a t =>
      obtain ⟨w, ws, rfl, q, s⟩ := r.cons_inv
      refine ⟨w, ws, rfl, ρ, h, σ, a, R, S, q, ?_⟩
      dsimp only [gCons'] at o
      cases c : g a σ h with
      | none => rw [c] at o; exact o.elim
      | some p =>
        obtain ⟨σ1, h1⟩ := p
        rw [c] at o
        exact fun ρ1 τ1 H1 e1 R1 S1 w1 => ⟨ρ1, h1, σ1, t, R1, S1, s.mono e1, (OutG.later o e1).mono fun τ2 H2 q w2 => q (w2.trans w1)⟩⟩
theorem jgw_tup {vs : List Nat} {es : List Expr} {k : Nat} {g : AGs} {n : Nat} {pos : Pos} (hc : X.calm = true) (h : JGsw X vs es g) (hn : (assignEach es X.env).length = n := by rfl) (hst : (assignEach es X.env).findIdx? (·.1) = none := by rfl) : JGw X vs (.Tuple es k pos) (gTup' n g) :=
  ⟨PGmono (pg_tup hc h.pgs hn hst) fun v τ H Q ⟨ρ, h, σ, y, R, S, r, o⟩ => by
    cases y with
    | tup xs =>
      obtain ⟨p, vs, rfl, f, q⟩ := r.tup_inv
      dsimp only [gTup'] at o
      split at o
      · rename_i hz
        exact ⟨p, vs, rfl, f.sq, by rw [q.len]; exact hz, ρ, h, σ, xs, R, S, q, o⟩
      · exact o.elim
    | _ => exact o.elim⟩
/-! ### [e for target in iter if test] -/
def wipeA (σ : ASt) : List Nat → ASt
  | [] => σ
  | v :: vs => (wipeA σ vs).set v none
theorem RS.wipe {ρ : List Addr} {H : Hp} {σ : ASt} {τ : St} (S : RS K ρ H σ τ) : ∀ vs : List Nat, RS K ρ H (wipeA σ vs) (L2.wipe τ vs)
  | [] => S
  | v :: vs => (RS.wipe S vs).unset v none
structure JTs (X : Cx) (W : WX) (ifs : List Expr) (m : AT) : Prop where
  pt : PTs X ifs (LT (cxKW X) W m)
theorem PTsmono {e : List Expr} {t t' : TT} (p : PTs X e t) (i : ∀ σ H Q, t' σ H Q → t σ H Q) : PTs X e t' := ⟨fun pins s σ H Q I h => p.run pins s σ H Q I (i σ H Q h)⟩
def tYes' : AT := fun _ h => .ok true h
theorem jts_nil : JTs X W [] tYes' := ⟨PTsmono pts_nil fun τ H Q ⟨ρ, h, σ, R, S, o⟩ => Out.done o R rfl⟩
theorem jts_one {c : Expr} {m : AT} (hc : JT X W c m) : JTs X W [c] m := ⟨pts_one hc.pt⟩
def lcA (a : AI) (vs : List Nat) (g : AG) (t : AT) (e : AE) (σ : ASt) (d : Nat) : Nat → Nat → AH → Res PV
  | n, i, h => match a.nxt i h with
    | none => .stuck
    | some none => .ok (.loc d) h
    | some (some x) => match n with
      | 0 => .stuck
      | n + 1 => match g x (wipeA σ vs) h with
        | none => .stuck
        | some (σ1, h1) => match t σ1 h1 with
          | .ok true h2 => match e σ1 h2 with
            | .ok y h3 => match h3[d]? with
              | some (.lst acc) => if acc.length < sizeLine then lcA a vs g t e σ d n (i + 1) (h3.set d (.lst (acc ++ [y]))) else .stuck
              | _ => .stuck
            | _ => .stuck
          | .ok false h2 => lcA a vs g t e σ d n (i + 1) h2
          | _ => .stuck
def aLc (m : AIt) (vs : List Nat) (g : AG) (t : AT) (e : AE) : AE := fun σ h => (m σ h).bind fun a h1 => lcA a vs g t e σ h1.length a.n 0 (h1 ++ [.lst []])
/-- the reading of a comprehension -/
theorem le_lc {m : AIt} {vs : List Nat} {g : AG} {t : AT} {e : AE} {τ : St} {H : Hp} {Q : VK} (o : LE K W (aLc m vs g t e) τ H Q) :
    tLc (LI K W m) (fun v τ H Q => ∃ ρ h σ x, Rep K ρ h H ∧ RS K ρ H σ τ ∧ RV K ρ H x v ∧ OutG K ρ H (g x σ h) fun τ' H' => L2.wipe τ' vs = L2.wipe τ vs → Q τ' H') (LT K W0 t) (LE K W0 e) vs τ H Q := by
  obtain ⟨ρ, h, σ, R, S, o⟩ := o
  refine ⟨ρ, h, σ, R, S, (Out.bind (R := AIok K) o).mono fun J H1 ⟨ρ1, a, h1, e1, R1, q1, o1⟩ => ?_⟩
  intro D hD
  have x1 : Ext ρ1 H1 (ρ1 ++ [D]) (upd H1 D (.lst [])) := .push hD
  have R1' : Rep K (ρ1 ++ [D]) (h1 ++ [.lst []]) (upd H1 D (.lst [])) := R1.push hD ⟨[], upd_same, .nil⟩
  have ed : (ρ1 ++ [D])[h1.length]? = some D := by rw [← R1.len]; simp
  have S1 := (S.mono e1).mono x1
  refine ⟨fun i n H => ∃ ρ h, Ext (ρ1 ++ [D]) (upd H1 D (.lst [])) ρ H ∧ Rep K ρ h H ∧ OutE K W ρ τ H (lcA a vs g t e σ h1.length n i h) Q, ⟨a.n, ρ1 ++ [D], _, .refl, R1', Out.later o1 x1⟩, ?_⟩
  rintro i n H2 ⟨ρ2, h2, e2, R2, o2⟩
  have q2 := q1 i ρ2 h2 H2 (x1.trans e2) R2
  unfold lcA at o2
  cases c : a.nxt i h2 with
  | none => rw [c] at o2; exact o2.elim
  | some ox =>
    rw [c] at o2 q2
    cases ox with
    | none => exact .inl ⟨q2, Out.done o2 R2 (.loc (e2.get ed))⟩
    | some x =>
      cases n with
      | zero => exact o2.elim
      | succ n =>
        refine .inr ⟨q2.1, fun H => ∃ ρ h, Ext (ρ1 ++ [D]) (upd H1 D (.lst [])) ρ H ∧ Rep K ρ h H ∧ OutE K W ρ τ H (lcA a vs g t e σ h1.length n (i + 1) h) Q, fun H' k => ⟨n, Nat.lt_succ_self _, k⟩, fun v H3 y => ?_⟩
        obtain ⟨e3, R3, r3⟩ := q2.2 v H3 y
        have e03 := e2.trans e3
        refine ⟨ρ2, h2, wipeA σ vs, x, R3, (S1.mono e03).wipe vs, r3, ?_⟩
        dsimp only at o2
        cases cg : g x (wipeA σ vs) h2 with
        | none => rw [cg] at o2; exact o2.elim
        | some p =>
          obtain ⟨σ4, h4⟩ := p
          rw [cg] at o2
          intro ρ4 τ4 H4 e4 R4 S4 w4
          have ww : L2.wipe (L2.wipe τ vs) vs = L2.wipe τ vs := by
            have : ∀ (us : List Nat), (∀ u ∈ us, u ∈ vs) → L2.wipe (L2.wipe τ us) vs = L2.wipe τ vs := by
              intro us
              induction us with
              | nil => intro _; rfl
              | cons u us ih =>
                intro hu
                show L2.wipe ((L2.wipe τ us).set u none) vs = _
                rw [wipe_comm _ u none vs (hu u List.mem_cons_self)]
                exact ih fun z hz => hu z (List.mem_cons_of_mem _ hz)
            exact this vs fun _ hz => hz
          refine ⟨w4.trans ww, ρ4, h4, σ4, R4, S4, ?_⟩
          dsimp only at o2
          cases ct : t σ4 h4 with
          | exc _ _ _ => rw [ct] at o2; exact o2.elim
          | stuck => rw [ct] at o2; exact o2.elim
          | ok k h5 =>
            rw [ct] at o2
            intro ρ5 H5 b e5 R5 eb
            subst eb
            have e05 := e3.trans (e4.trans e5)
            cases k with
            | false =>
              rw [if_neg Bool.false_ne_true]
              exact ⟨ρ5, h5, e2.trans e05, R5, Out.later o2 e05⟩
            | true =>
              rw [if_pos rfl]
              dsimp only at o2
              refine ⟨ρ5, h5, σ4, R5, S4.mono e5, ?_⟩
              cases ce : e σ4 h5 with
              | exc _ _ _ => rw [ce] at o2; exact o2.elim
              | stuck => rw [ce] at o2; exact o2.elim
              | ok y h6 =>
                rw [ce] at o2
                dsimp only at o2
                intro ρ6 H6 v6 e6 R6 r6
                split at o2
                · rename_i acc ea
                  split at o2
                  · rename_i hz
                    have e06 := e05.trans e6
                    have ep := (e2.trans e06).get ed
                    obtain ⟨us, eu, q⟩ := R6.obj _ _ _ ep ea
                    refine ⟨us, eu, by rw [q.len]; exact hz, ?_⟩
                    have x7 : Ext ρ6 H6 ρ6 (upd H6 D (.lst (us ++ [v6]))) := .write ep (nfL eu)
                    exact ⟨ρ6, _, (e2.trans e06).trans x7, R6.write (u := .lst (acc ++ [y])) ep (nfL eu) ⟨_, upd_same, (q.append (.cons r6 .nil)).mono x7⟩, Out.later o2 (e06.trans x7)⟩
                  · exact o2.elim
                · exact o2.elim
/-- blocks of a comprehension -/
abbrev Blk (X : Cx) (scope : Scope) (s : Shared) (H : Hp) (C : Addr) (cl : List (Str × Addr)) (fp : List Addr) : Cx := X.blk s H scope (compEnvC scope cl C X.env) fp
theorem je_lc {elt tg iter : Expr} {ifs : List Expr} {scope : Scope} {own : List (Str × Nat)} {pos : Pos} {m : AIt} {g : AG} {t : AT} {e : AE} (hc : X.calm = true) (hN : X.N.Nodup) (hi : JI X W tg iter m) (ok : BlkOk X.N X.env.scope scope own)
    (hg : ∀ (s : Shared) (H : Hp) (C : Addr) (cl : List (Str × Addr)) (fp : List Addr), JGw (Blk X scope s H C cl fp) (own.map (·.2)) tg g) (ht : ∀ (s : Shared) (H : Hp) (C : Addr) (cl : List (Str × Addr)) (fp : List Addr), JTs (Blk X scope s H C cl fp) W0 ifs t)
    (he : ∀ (s : Shared) (H : Hp) (C : Addr) (cl : List (Str × Addr)) (fp : List Addr), JE (Blk X scope s H C cl fp) W0 elt e) (hs : ∀ x, foldedSetIterable iter X.env x = pure x := by intro _; rfl) :
    JE X W (.ListComp elt [⟨tg, iter, ifs, 0⟩] scope pos) (aLc m (own.map (·.2)) g t e) :=
  ⟨PEmono (pe_lc (own := own) hc hN hi.pi ok (fun s H C cl fp => (hg s H C cl fp).pg) (fun s H C cl fp => (ht s H C cl fp).pt) (fun s H C cl fp => (he s H C cl fp).pe) hs) fun τ H Q o => le_lc o⟩
theorem js_setLc (i : Nat) {y : Str} {py : Pos} {elt tg iter : Expr} {ifs : List Expr} {scope : Scope} {own : List (Str × Nat)} {pos spos : Pos} {m : AIt} {g : AG} {t : AT} {e : AE} (hc : X.calm = true) (hN : X.N.Nodup) (hi : JI X W tg iter m) (ok : BlkOk X.N X.env.scope scope own)
    (hg : ∀ (s : Shared) (H : Hp) (C : Addr) (cl : List (Str × Addr)) (fp : List Addr), JGw (Blk X scope s H C cl fp) (own.map (·.2)) tg g) (ht : ∀ (s : Shared) (H : Hp) (C : Addr) (cl : List (Str × Addr)) (fp : List Addr), JTs (Blk X scope s H C cl fp) W0 ifs t)
    (he : ∀ (s : Shared) (H : Hp) (C : Addr) (cl : List (Str × Addr)) (fp : List Addr), JE (Blk X scope s H C cl fp) W0 elt e)
    (hsw : swapsWith (.ListComp elt [⟨tg, iter, ifs, 0⟩] scope pos) (some (.Name y py)) spos.line X.env = pure true := by exact sw_true rfl rfl rfl (by decide +kernel))
    (hy : X.N[i]? = some y := by rfl) (hyl : X.env.scope.names.lookup y = some .local := by rfl) (hs : ∀ x, foldedSetIterable iter X.env x = pure x := by intro _; rfl) :
    JS X W (.Assign [.Name y py] (.ListComp elt [⟨tg, iter, ifs, 0⟩] scope pos) spos) (sSet i (aLc m (own.map (·.2)) g t e)) :=
  ⟨PSmono (ps_setLc (i := i) (own := own) hc hN hy hyl hsw hi.pi ok (fun s H C cl fp => (hg s H C cl fp).pg) (fun s H C cl fp => (ht s H C cl fp).pt) (fun s H C cl fp => (he s H C cl fp).pe) hs) fun D τ H ⟨ρ, h, σ, R, S, o⟩ =>
    le_lc ⟨ρ, h, σ, R, S, (OutS.lift (R := RV (cxKW X)) S o).mono fun x H1 ⟨ρ1, v, h1, e1, R1, q1, o1⟩ => o1 ρ1 _ H1 .refl R1 ((S.mono e1).set i q1)⟩⟩
/-- cut, where the statement stores the list -/
theorem js_cut (i : Nat) {st : Stmt} {m : AE} (hs : JS X W st (sSet i m)) : JS X W st (sSet i (aCut m)) :=
  ⟨PSmono hs.ps fun D τ H ⟨ρ, h, σ, R, S, o⟩ => ⟨ρ, h, σ, R, S, by
    unfold sSet aCut at o
    unfold sSet
    cases c : m σ h with
    | exc _ _ _ => rw [c] at o; exact o
    | stuck => rw [c] at o; exact o
    | ok v h1 =>
      rw [c] at o
      rw [liftS_ok]
      intro ρ' τ' H' e R1 S1
      unfold finC at o
      dsimp only at o
      split at o
      · rename_i cb
        split at o
        · rename_i v' ev
          obtain ⟨e0, R2, x2⟩ := R.cut R1 e cb
          refine o ρ τ' H' x2 R2 ⟨by rw [S1.len]; simp, fun j y ej => ?_⟩
          by_cases hj : i = j
          · subst hj
            have hi : i < σ.length := by have := (List.getElem?_eq_some_iff.mp ej).1; simpa using this
            rw [List.getElem?_set_self hi] at ej
            cases ej
            obtain ⟨u, e1, q⟩ := S1.at_ i v (by rw [List.getElem?_set_self hi])
            have q2 := frz_ok R1 ev q
            rw [e0] at q2
            exact ⟨u, e1, q2⟩
          · rw [List.getElem?_set_ne hj] at ej
            obtain ⟨u, e1, q⟩ := S1.at_ j y (by rw [List.getElem?_set_ne hj]; exact ej)
            obtain ⟨w, _, qw⟩ := S.at_ j y ej
            have b := qw.isLow
            rw [R.len] at b
            have q2 := q.cut b
            rw [e0] at q2
            exact ⟨u, e1, q2⟩
        · exact o.elim
      · exact o.elim⟩⟩
end
/-! ### defs -/
/-- what a def promises, by its reading m on values -/
def OutF (K : KW) (ρ : List Addr) (H : Hp) (r : Res PV) (Q : VK) (E : XK) : Prop := match r with
  | .ok v h => ∀ ρ' H' x, Ext ρ H ρ' H' → Rep K ρ' h H' → RV K ρ' H' v x → Q x H'
  | .exc c fs h => ∀ ρ' H' d, Ext ρ H ρ' H' → Rep K ρ' h H' → XD K ρ' H' d fs → E (.ref c) (some d) H'
  | .stuck => False
def spM (K : KW) (n : Nat) (m : FN) : Sp := fun vs H Q E => vs.length = n ∧ ∃ ρ h xs, Rep K ρ h H ∧ RVs K ρ H xs vs ∧ OutF K ρ H (m xs h) Q E
structure FnA (P : Program) (w : World) (K : PySem.W.Frag) (mg : Str → Option Value) (base : Heap) (k : Nat) (f : Addr) (fd : FuncData) (ps : List Str) (m : FN) : Prop where
  ok : FnOk P w K mg base (L2.CX P w) k f fd ps (spM ⟨K, w⟩ ps.length m)
/-- a def's end: what it hands back; frozen or (keep) as it is -/
def endF (keep : Bool) (h : AH) (r : SRes) : Res PV := match r with
  | .fin (.rt v) _ h1 => if keep = true then .ok v h1 else finC h.length h h1 v
  | .fin .nx _ h1 => if keep = true then .ok .non h1 else finC h.length h h1 .non
  | .exc c fs _ h1 => .exc c fs h1
  | _ => .stuck
def startA (n : Nat) (xs : List PV) : ASt := xs.map some ++ List.replicate (n - xs.length) none
def mDef (keep : Bool) (n : Nat) (body : AS) : FN := fun xs h => endF keep h (body (startA n xs) h)
theorem start_rs {K : KW} {ρ : List Addr} {H : Hp} {xs : List PV} {vs : List V} {N : List Str} (r : RVs K ρ H xs vs) : RS K ρ H (startA N.length xs) (L2.start N vs) := by
  refine ⟨by unfold startA L2.start; simp [r.len], fun i x e => ?_⟩
  unfold startA at e
  unfold L2.start
  by_cases hi : i < xs.length
  · rw [List.getElem?_append_left (by simpa using hi), List.getElem?_map] at e
    rw [List.getElem?_append_left (by simp [r.len]; exact hi), List.getElem?_map]
    cases c : xs[i]? with
    | none => rw [c] at e; cases e
    | some y =>
      rw [c] at e; cases e
      obtain ⟨v, ev, q⟩ := r.get c
      exact ⟨v, by rw [ev]; rfl, q⟩
  · rw [List.getElem?_append_right (by simpa using hi), List.getElem?_replicate] at e
    split at e <;> cases e
theorem OutF.cut {K : KW} {ρ : List Addr} {h h1 : AH} {H : Hp} {v : PV} {Q : VK} {E : XK} (R : Rep K ρ h H) (o : OutF K ρ H (finC h.length h h1 v) Q E) : OutF K ρ H (.ok v h1) Q E := by
  intro ρ' H' x e R1 r
  unfold finC at o
  split at o
  · rename_i c
    split at o
    · rename_i v' ev
      obtain ⟨e0, R2, x2⟩ := R.cut R1 e c
      have q := frz_ok R1 ev r
      rw [e0] at q
      exact o ρ H' x x2 R2 q
    · exact o.elim
  · exact o.elim
section
variable {P : Program} {w : World} {K : PySem.W.Frag} {mg : Str → Option Value} {base : Heap}
/-- a def's context, as fn_of has it -/
abbrev Xd (P : Program) (w : World) (K : PySem.W.Frag) (mg : Str → Option Value) (base : Heap) (N : List Str) (qual : Str) (scope : Scope) (f : Addr) (cd : Value) (A : Around) (outer : List Env) (s : Shared) (H : Hp) (E : XK) : Cx := cxOf (L2.CX P w) P w K mg base N qual scope f cd A outer s H E
theorem fn_def {x qual : Str} {st : Stmt} {f : Addr} {fd : FuncData} {N ps : List Str} {k : Nat} (keep : Bool) {body : AS} (F : Fun K x qual st f fd) (S : FnScope N ps (defScope st))
    (hb : ∀ (cdv : Value) (A : Around) (outer : List Env) (s : Shared) (H : Hp) (E : XK), Room k (A.deeper (envOfC qual (defScope st) s.heap.objs.size f cdv)) → Takes (Xd P w K mg base N qual (defScope st) f cdv A outer s H E) (fun c d _ H' => E c d H') →
      PassesOwn (model P w) (Xd P w K mg base N qual (defScope st) f cdv A outer s H E).A (Xd P w K mg base N qual (defScope st) f cdv A outer s H E).env (Xd P w K mg base N qual (defScope st) f cdv A outer s H E).xe →
      JSs (Xd P w K mg base N qual (defScope st) f cdv A outer s H E) (fun c d _ H' => E c d H') (defBody st) body) : FnA P w K mg base (k + 1) f fd ps (mDef keep N.length body) := by
  refine ⟨F.okX S (fun vs H Q E h => h.1) fun cdv A outer s H vs Q E hr h => ?_⟩
  obtain ⟨hl, ρ, h, xs, R, r, o⟩ := h
  refine ⟨_, (hb cdv A outer s H E hr (takes_of rfl rfl rfl rfl) (passes_of rfl)).pss, ρ, h, startA N.length xs, R, start_rs r, ?_⟩
  unfold mDef at o
  cases c : body (startA N.length xs) h with
  | stuck => rw [c] at o; exact o.elim
  | exc cc fs σ1 h1 => rw [c] at o; exact fun ρ' τ H' d e R1 S1 xd => o ρ' H' d e R1 xd
  | fin fl σ1 h1 =>
    rw [c] at o
    cases fl with
    | bk => exact o.elim
    | ct => exact o.elim
    | rt v =>
      have o' : OutF ⟨K, w⟩ ρ H (.ok v h1) Q E := by
        unfold endF at o
        dsimp only at o
        cases keep with
        | true => exact o
        | false => exact OutF.cut R o
      exact fun ρ' x H' e R1 q => o' ρ' H' x e R1 q
    | nx =>
      have o' : OutF ⟨K, w⟩ ρ H (.ok .non h1) Q E := by
        unfold endF at o
        dsimp only at o
        cases keep with
        | true => exact o
        | false => exact OutF.cut R o
      exact fun ρ' τ' H' e R1 S1 => o' ρ' H' .non e R1 .non
end
section
variable {X : Cx} {W : WX}
def aCall (n : Nat) (m : FN) (l : AL) : AE := fun σ h => (l σ h).bind fun xs h1 => if xs.length = n then m xs h1 else .stuck
theorem OutF.of {ρ : List Addr} {H : Hp} {τ : St} {r : Res PV} {Q : VK} (o : OutE (cxKW X) W ρ τ H r Q) : OutF (cxKW X) ρ H r Q (WE W τ) := by
  cases r with
  | ok v h => exact o
  | exc c fs h => exact fun ρ' H' d e R x => o ρ' H' d e R x
  | stuck => exact o
/-- what a def's facts are told over -/
structure CxIs (X : Cx) (P : Program) (w : World) (K : PySem.W.Frag) (mg : Str → Option Value) (base : Heap) (A : Around) : Prop where
  prog : X.prog = P
  w : X.w = w
  K : X.K = K
  mg : X.mg = mg
  base : X.base = base
  A : X.A = A
/-- f(e, ..) -/
theorem je_call {P : Program} {w : World} {K : PySem.W.Frag} {mg : Str → Option Value} {base : Heap} {A : Around} {k : Nat} {f : Addr} {fd : FuncData} {ps : List Str} {m : FN} {l : AL} {x : Str} {p pos : Pos} {e : Expr} {es : List Expr} (F : FnA P w K mg base k f fd ps m) (hr : Room k A) (hm : mg x = some (.ref f)) (hk : PySem.W.keepIn K (.ref f) = true) (hb : Binds K fd ps []) (tk : Takes X W)
    (ha : JA X W (e :: es) l) (ci : CxIs X P w K mg base A := by exact ⟨rfl, rfl, rfl, rfl, rfl, rfl⟩) (hl : (e :: es).length = ps.length := by rfl) (hg : Gl X x := by rfl) (hdb : (x == ("__debug__" : Str)) = false := by decide) (he : starEach (e :: es) X.env = (false, eval e X.env) :: starEach es X.env := by rfl) (hpl : (backTo pos (starEach es X.env)).any (·.1) = false := by rfl) :
    JE X W (.Call (.Name x p) (e :: es) [] pos) (aCall ps.length m l) := by
  obtain ⟨rfl, rfl, rfl, rfl, rfl, rfl⟩ := ci
  exact ⟨PEmono (pe_callS F.ok hr hg hm hk hb (fun σ => passAt tk σ) ha.pa hdb he hpl) fun τ H Q ⟨ρ, h, σ, R, S, o⟩ => ⟨ρ, h, σ, R, S, (Out.bind (R := RVs (cxKW X)) o).mono fun vs H1 ⟨ρ1, xs, h1, e1, R1, q1, o1⟩ => by
    split at o1
    · rename_i hx
      exact ⟨by rw [q1.len]; exact hx, ρ1, h1, xs, R1, q1, OutF.of o1⟩
    · exact o1.elim⟩⟩
end
end AB
namespace AB
open PySem PySem.Spec
open PyProof.Rows hiding St
open L2
section
variable {X : Cx} {W : WX} {K : KW}
/-- any sequence walked -/
def itS (v : PV) (h : AH) : Res AI := match v with
  | .tup xs => .ok (itVals xs) h
  | v => itL v h
def aItS (m : AE) : AIt := fun σ h => (m σ h).bind itS
theorem itL_aiok {ρ : List Addr} {h h' : AH} {H : Hp} {v : PV} {x : V} {a : AI} (R : Rep K ρ h H) (r : RV K ρ H v x) (e : itL v h = .ok a h') : h' = h ∧ ∃ p xs, x = .ref p ∧ SqL K.fr H p xs ∧ AIok K ρ H a (Itl K.fr p) := by
  unfold itL at e
  split at e
  · rename_i xs c
    obtain ⟨p, vs, rfl, s, q⟩ := lst_of R r c
    split at e
    · cases e; exact ⟨rfl, p, vs, rfl, s, aiok_lst r⟩
    · rename_i hv
      cases e
      refine ⟨rfl, p, vs, rfl, s, aiok_vals r fun h => ?_⟩
      cases v with
      | lst ys => exact c
      | ro ys => exact c
      | loc n => exact absurd rfl (hv n)
      | _ => cases c
  · cases e
theorem aiok_tup {ρ0 : List Addr} {H0 : Hp} {xs : List PV} {vs : List V} {p : Addr} (f : FxT K ρ0 H0 p vs) (q : RVs K ρ0 H0 xs vs) : AIok K ρ0 H0 (itVals xs) (Itt K.fr p) := fun i ρ2 h2 H2 e2 R2 => by
  have f2 := (f.mono e2).sq
  have q2 := q.mono e2
  show match some xs[i]? with | none => True | some none => _ | some (some x) => _
  cases ci : xs[i]? with
  | none => exact ⟨vs, f2, by rw [q.len]; exact List.getElem?_eq_none_iff.mp ci⟩
  | some x =>
    obtain ⟨w, ew, qw⟩ := q2.get ci
    exact ⟨⟨vs, w, f2, ew⟩, fun u H' ⟨e1, f⟩ => by
      subst e1
      have := f vs f2
      rw [ew] at this; cases this
      exact ⟨.refl, R2, qw⟩⟩
/-- a list or a tuple, where the text does not tell which -/
theorem pi_seq {tg l : Expr} {tl : TE} (hl : PE X l tl) : PI X tg l (fun σ H R => tl σ H fun x H1 => ∃ a, x = .ref a ∧ (((∃ xs, SqL X.K H1 a xs) ∧ R (Itl X.K a) H1) ∨ ((∃ xs, SqT X.K H1 a xs) ∧ R (Itt X.K a) H1))) := by
  refine ⟨fun pins s σ H R I h => ?_⟩
  refine thn (hl.run pins s σ H _ I h) fun v s1 ⟨x, H1, I1, r1, q1⟩ => ?_
  obtain ⟨a, e, q⟩ := q1
  subst e
  cases r1
  rcases q with ⟨⟨xs, hq⟩, q⟩ | ⟨⟨xs, hq⟩, q⟩
  · obtain ⟨its, rv, p, hz⟩ := I1.list hq
    refine wpAny_pyIter_list p.isList ?_
    refine ⟨s1.heap.objs.size, [s1.heap.objs.size], _, _, H1, rfl, I1.kept (t' := s1.toks) fun b o e => Heap.get?_push_of_some _ e, turn_list a _, ⟨_, Heap.get?_push_size _ rfl, rfl, rfl⟩, fun b hb => ?_, q⟩
    have e : b = s1.heap.objs.size := by simpa using hb
    subst e
    exact I1.fpOk (Nat.le_refl _) (I1.hok.fresh (Nat.le_refl _))
  · obtain ⟨its, rv, p, hz⟩ := I1.tuple hq
    refine wpAny_pyIter_tuple (show s1.heap.IsTuple a its.toArray from p) ?_
    refine ⟨s1.heap.objs.size, [s1.heap.objs.size], _, _, H1, rfl, I1.kept (t' := s1.toks) fun b o e => Heap.get?_push_of_some _ e, turn_tuple a _, ⟨_, Heap.get?_push_size _ rfl, rfl, rfl⟩, fun b hb => ?_, q⟩
    have e : b = s1.heap.objs.size := by simpa using hb
    subst e
    exact I1.fpOk (Nat.le_refl _) (I1.hok.fresh (Nat.le_refl _))
theorem ji_seq {tg l : Expr} {m : AE} (hl : JE X W l m) : JI X W tg l (aItS m) :=
  ⟨PImono (pi_seq hl.pe) fun τ H Rk ⟨ρ, h, σ, R, S, o⟩ => ⟨ρ, h, σ, R, S, (Out.bind (R := RV (cxKW X)) o).mono fun x H1 ⟨ρ1, v, h1, e1, R1, q1, o1⟩ => by
    unfold itS at o1
    split at o1
    · obtain ⟨p, vs, rfl, f, q⟩ := q1.tup_inv
      exact ⟨p, rfl, .inr ⟨⟨vs, f.sq⟩, Out.done o1 R1 (aiok_tup f q)⟩⟩
    · cases c : itL v h1 with
      | exc _ _ _ => unfold itL at c; split at c <;> first | (split at c <;> cases c) | cases c
      | stuck => rw [c] at o1; exact o1.elim
      | ok a h2 =>
        rw [c] at o1
        obtain ⟨rfl, p, vs, rfl, s, k⟩ := itL_aiok R1 q1 c
        exact ⟨p, rfl, .inl ⟨⟨vs, s⟩, Out.done o1 R1 k⟩⟩⟩⟩
end
end AB

/-! AB8: list(enumerate(xs)) -/
namespace PySem.W
open PySem PySem.Calls PyProof.Rows PyProof.V PySem.Spec
theorem abe_len : typeLookup (.type "enumerate") "__len__" = pure none := by rw [typeLookup_type, builtinLookup_eq_fast]; kernel_rfl
theorem abe_hint : typeLookup (.type "enumerate") "__length_hint__" = pure none := by rw [typeLookup_type, builtinLookup_eq_fast]; kernel_rfl
/-- the enumerator whose last pair, at a, is out -/
abbrev EnX (h : Heap) (e it : Addr) (i : Int) (a : Addr) (f : Bool) (x : Value) : Prop :=
  h.get? e = some { cls := .type "enumerate", dict := none, data := .fields #[rawInt a, .bool f, .ref it, rawInt i, .none, x], slots := #[] }
section
variable {prog : Program} {w : World} {A : Around} {E : Value → Shared → Prop} {s : Shared}
theorem abe_next_out {e it l a : Addr} {f : Bool} {oa : Obj} {i : Nat} {items : Array Value} {x old : Value} {Q : Value → Shared → Prop}
    (he : EnX s.heap e it i a f old) (ha : s.heap.get? a = some oa) (hae : a ≠ e) (hai : a ≠ it) (hit : s.heap.IsListIter it l i) (hl : s.heap.IsList l items) (hx : items[i]? = some x) (hne : e ≠ it)
    (hQ : ∀ h', EnX h' e it ((i : Int) + 1) a true old → h'.IsListIter it l (i + 1) →
      h'.get? s.heap.objs.size = some { cls := .type "tuple", data := .seq #[.int i s.toks, x] } → h'.objs.size = s.heap.objs.size + 1 →
      (∀ b o, b ≠ e → b ≠ it → s.heap.get? b = some o → h'.get? b = some o) → Q (.ref s.heap.objs.size) { s with heap := h', toks := s.toks + 1 }) :
    wpAny (model prog w) A (Builtin.«enumerate.__next__» ⟨[.ref e], []⟩) (fun fin s' => ∃ v, fin = .done (.ret v) ∧ Q v s') E s := by
  obtain ⟨hp, g, d, tk, os⟩ := s
  show wpAny _ _ (field (.ref e) 2 >>= _) _ _ _
  refine wpAny_bind (wpAny_field he rfl (x := .ref it) rfl ?_)
  refine wpAny_bind (wpAny_nextOf_list_item hit hl hx fun h₁ hit₁ hs₁ => ?_)
  replace hs₁ : Heap.SameBut it hp h₁ := hs₁
  have he₁ : EnX h₁ e it i a f old := (hs₁.2 e hne).trans he
  show wpAny _ _ (field (.ref e) 3 >>= _) _ _ ⟨h₁, g, d, tk, os⟩
  refine wpAny_bind (wpAny_field he₁ rfl (x := rawInt i) rfl ?_)
  show wpAny _ _ (field (.ref e) 4 >>= _) _ _ ⟨h₁, g, d, tk, os⟩
  refine wpAny_bind (wpAny_field he₁ rfl (x := .none) rfl ?_)
  show wpAny _ _ (mkInt i >>= _) _ _ ⟨h₁, g, d, tk, os⟩
  refine wpAny_bind (wpAny_mkInt ?_)
  show wpAny _ _ (setField (.ref e) 3 (rawInt ((i : Int) + 1)) >>= _) _ _ ⟨h₁, g, d, tk + 1, os⟩
  refine wpAny_bind (wpAny_setField_rec he₁ (by simp) fun h₂ he₂ hs₂ => ?_)
  replace hs₂ : Heap.SameBut e h₁ h₂ := hs₂
  replace he₂ : EnX h₂ e it ((i : Int) + 1) a f old := he₂
  show wpAny _ _ (setField (.ref e) 4 .none >>= _) _ _ ⟨h₂, g, d, tk + 1, os⟩
  refine wpAny_bind (wpAny_setField_rec he₂ (by simp) fun h₃ he₃ hs₃ => ?_)
  replace hs₃ : Heap.SameBut e h₂ h₃ := hs₃
  replace he₃ : EnX h₃ e it ((i : Int) + 1) a f old := he₃
  show wpAny _ _ (newTuple [.int i tk, x] >>= _) _ _ ⟨h₃, g, d, tk + 1, os⟩
  refine wpAny_bind (wpAny_newTuple ?_)
  have he₄ : EnX (h₃.push { cls := .type "tuple", data := .seq #[.int i tk, x] }) e it ((i : Int) + 1) a f old := Heap.get?_push_of_some _ he₃
  generalize hh₄ : h₃.push { cls := .type "tuple", data := .seq #[.int i tk, x] } = h₄ at he₄
  have hsz : h₃.objs.size = hp.objs.size := by rw [hs₃.1, hs₂.1, hs₁.1]
  have hel : e < hp.objs.size := Heap.lt_size he
  have ht₄ : h₄.get? hp.objs.size = some { cls := .type "tuple", data := .seq #[.int i tk, x] } := by rw [← hh₄, ← hsz]; exact Heap.get?_push_size _ rfl
  have hz₄ : h₄.objs.size = hp.objs.size + 1 := by rw [← hh₄, Heap.size_push, hsz]
  have hk₄ : ∀ b o, b ≠ e → b ≠ it → hp.get? b = some o → h₄.get? b = some o := fun b o hbe hbi hb => by
    rw [← hh₄]; exact Heap.get?_push_of_some _ (hs₃.extBut b o hbe (hs₂.extBut b o hbe (hs₁.extBut b o hbi hb)))
  have hit₄ : h₄.IsListIter it l (i + 1) := by
    rw [← hh₄]; obtain ⟨o, ho, r⟩ := (hit₁.extBut hs₂.extBut (Ne.symm hne)).extBut hs₃.extBut (Ne.symm hne); exact ⟨o, Heap.get?_push_of_some _ ho, r⟩
  show wpAny _ _ (Builtin.SmallTypes.ownedTupleIsFree (.ref e) >>= _) _ _ ⟨h₄, g, d, tk + 1, os⟩
  rw [hsz]
  clear hh₄ he₃ hs₃ he₂ hs₂ he₁ hs₁ hit₁ hsz h₃ h₂ h₁
  have ha₄ : h₄.get? a = some oa := hk₄ a oa hae hai ha
  refine wpAny_bind ?_
  unfold Builtin.SmallTypes.ownedTupleIsFree
  refine wpAny_bind (wpAny_field he₄ rfl (x := rawInt a) rfl ?_)
  show wpAny _ _ (loadIfAlive ((a : Int).toNat) >>= _) _ _ _
  rw [Int.toNat_natCast]
  refine wpAny_bind (kdx_alive ha₄ ?_)
  simp only [Option.isNone_some, Bool.false_eq_true, if_false]
  refine wpAny_bind (wpAny_field he₄ rfl (x := .bool f) rfl ?_)
  cases f with
  | true =>
    rw [if_neg (show ¬ ((Value.bool true != Value.bool true) = true) from Bool.false_ne_true)]
    refine wpAny_pure ?_
    simp only [Bool.false_eq_true, if_false]
    exact wpAny_pure ⟨_, rfl, hQ h₄ he₄ hit₄ ht₄ hz₄ hk₄⟩
  | false =>
    rw [if_pos (show (Value.bool false != Value.bool true) = true from rfl)]
    refine wpAny_bind (wpAny_setField_rec he₄ (by simp) fun h₅ he₅ hs₅ => ?_)
    replace hs₅ : Heap.SameBut e h₄ h₅ := hs₅
    replace he₅ : EnX h₅ e it ((i : Int) + 1) a true old := he₅
    refine wpAny_pure ?_
    simp only [Bool.false_eq_true, if_false]
    exact wpAny_pure ⟨_, rfl, hQ h₅ he₅ (hit₄.extBut hs₅.extBut (Ne.symm hne)) (hs₅.extBut _ _ (Nat.ne_of_gt hel) ht₄) (by rw [hs₅.1, hz₄]) fun b o hbe hbi hb => hs₅.extBut b o hbe (hk₄ b o hbe hbi hb)⟩
theorem abe_pyNext_out {e it l a : Addr} {f : Bool} {oa : Obj} {i : Nat} {items : Array Value} {x old : Value} {Q : Option Value → Shared → Prop}
    (he : EnX s.heap e it i a f old) (ha : s.heap.get? a = some oa) (hae : a ≠ e) (hai : a ≠ it) (hit : s.heap.IsListIter it l i) (hl : s.heap.IsList l items) (hx : items[i]? = some x) (hne : e ≠ it)
    (hQ : ∀ h', EnX h' e it ((i : Int) + 1) a true old → h'.IsListIter it l (i + 1) →
      h'.get? s.heap.objs.size = some { cls := .type "tuple", data := .seq #[.int i s.toks, x] } → h'.objs.size = s.heap.objs.size + 1 →
      (∀ b o, b ≠ e → b ≠ it → s.heap.get? b = some o → h'.get? b = some o) → Q (some (.ref s.heap.objs.size)) { s with heap := h', toks := s.toks + 1 }) :
    wpAny (model prog w) A (pyNext (.ref e)) Q E s := by
  have hT : s.TypeIs (.ref e) "enumerate" := ⟨_, he, rfl⟩
  unfold pyNext
  exact wpAny_bind (wpAny_attempt (wpAny_callSpecial?_slot (name := Str.ofString "__next__") hT F.slot_enumerate_next
    (wpAny_call_entry F.slot_enumerate_next hT F.entry_enumerate_next
      (abe_next_out he ha hae hai hit hl hx hne fun h' a b c d k => wpAny_pure (hQ h' a b c d k)) (F.args_enumerate_next_1 _))))
theorem abe_pyNext_end {e it l a : Addr} {f : Bool} {i : Nat} {items : Array Value} {old : Value} {Q : Option Value → Shared → Prop} (hh : A.handled = none)
    (he : EnX s.heap e it i a f old) (hit : s.heap.IsListIter it l i) (hl : s.heap.IsList l items) (hx : items[i]? = none)
    (hQ : ∀ h', Heap.ExtBut it s.heap h' → Q none { s with heap := h' }) : wpAny (model prog w) A (pyNext (.ref e)) Q E s := by
  have hT : s.TypeIs (.ref e) "enumerate" := ⟨_, he, rfl⟩
  unfold pyNext
  refine wpAny_bind (wpAny_attempt (wpAny_callSpecial?_slot (name := Str.ofString "__next__") hT F.slot_enumerate_next
    (wpAny_call_entry F.slot_enumerate_next hT F.entry_enumerate_next ?_ (F.args_enumerate_next_1 _))))
  show wpAny _ _ (field (.ref e) 2 >>= _) _ _ s
  refine wpAny_bind (wpAny_field he rfl (x := .ref it) rfl ?_)
  refine wpAny_bind (wpAny_nextOf_list_end hh hit hl hx fun h' x he' hx' => ?_)
  obtain ⟨o, ho, hc⟩ := hx'
  refine wpAny_bind (wpAny_isInstance (T := "StopIteration") (b := true) ⟨o, ho, hc⟩ isSubtype_stop ?_)
  exact wpAny_pure (hQ _ he')
/-- between the turns of list(enumerate(..)): S the list that is made -/
def EnS (h : Heap) (e it : Addr) (i : Nat) (S : Addr) : Prop :=
  (∃ old, IsEnum h e it ((i : Nat) : Int) old) ∨ ∃ a f x oa, EnX h e it ((i : Nat) : Int) a f x ∧ h.get? a = some oa ∧ a ≠ e ∧ a ≠ it ∧ a ≠ S
theorem EnS.keep {h h' : Heap} {e it S : Addr} {i : Nat} (st : EnS h e it i S) (k : ∀ b o, b ≠ S → h.get? b = some o → h'.get? b = some o) (heS : e ≠ S) : EnS h' e it i S := by
  rcases st with ⟨old, q⟩ | ⟨a, f, x, oa, q, ha, h1, h2, h3⟩
  · exact .inl ⟨old, k e _ heS q⟩
  · exact .inr ⟨a, f, x, oa, k e _ heS q, k a _ h3 ha, h1, h2, h3⟩
theorem abe_item {e it l S : Addr} {i : Nat} {items : Array Value} {x : Value} {Q : Option Value → Shared → Prop} (hst : EnS s.heap e it i S) (hS : S < s.heap.objs.size)
    (hit : s.heap.IsListIter it l i) (hl : s.heap.IsList l items) (hx : items[i]? = some x) (hne : e ≠ it)
    (hQ : ∀ h', EnS h' e it (i + 1) S → h'.IsListIter it l (i + 1) → h'.get? s.heap.objs.size = some { cls := .type "tuple", data := .seq #[.int i s.toks, x] } → h'.objs.size = s.heap.objs.size + 1 →
      (∀ b o, b ≠ e → b ≠ it → s.heap.get? b = some o → h'.get? b = some o) → Q (some (.ref s.heap.objs.size)) { s with heap := h', toks := s.toks + 1 }) :
    wpAny (model prog w) A (pyNext (.ref e)) Q E s := by
  have e1 : ((i + 1 : Nat) : Int) = (i : Int) + 1 := by omega
  have hil : it < s.heap.objs.size := by obtain ⟨o, ho, _⟩ := hit; exact Heap.lt_size ho
  rcases hst with ⟨old, he⟩ | ⟨a, f, y, oa, he, ha, hae, hai, haS⟩
  · have hel : e < s.heap.objs.size := Heap.lt_size he
    refine wpAny_pyNext_enum_item he hit hl hx hne fun h' ho hit' hT hsz hk => hQ h' (.inr ⟨s.heap.objs.size, false, x, _, ?_, hT, Nat.ne_of_gt hel, Nat.ne_of_gt hil, Nat.ne_of_gt hS⟩) hit' hT hsz hk
    rw [e1]; exact ho
  · refine abe_pyNext_out he ha hae hai hit hl hx hne fun h' ho hit' hT hsz hk => hQ h' (.inr ⟨a, true, y, oa, ?_, hk a oa hae hai ha, hae, hai, haS⟩) hit' hT hsz hk
    rw [e1]; exact ho
theorem abe_done {e it l S : Addr} {i : Nat} {items : Array Value} {Q : Option Value → Shared → Prop} (hh : A.handled = none) (hst : EnS s.heap e it i S)
    (hit : s.heap.IsListIter it l i) (hl : s.heap.IsList l items) (hx : items[i]? = none)
    (hQ : ∀ h', Heap.ExtBut it s.heap h' → Q none { s with heap := h' }) : wpAny (model prog w) A (pyNext (.ref e)) Q E s := by
  rcases hst with ⟨old, he⟩ | ⟨a, f, y, oa, he, ha, hae, hai, haS⟩
  · exact wpAny_pyNext_enum_end hh he hit hl hx hQ
  · exact abe_pyNext_end hh he hit hl hx hQ
/-- the tuples made so far: as holds the pairs of the first items -/
structure EnG (items : Array Value) (lo : Addr) (h : Heap) (as : List Addr) : Prop where
  rise : as.Pairwise (· < ·)
  above : ∀ a ∈ as, lo < a
  pairs : ∀ (j : Nat) (a : Addr), as[j]? = some a → ∃ (hj : j < items.size) (t : Tok), h.get? a = some { cls := .type "tuple", data := .seq #[.int j t, items[j]] }
theorem EnG.there {items : Array Value} {lo : Addr} {h : Heap} {as : List Addr} (g : EnG items lo h as) {a : Addr} (ha : a ∈ as) : a < h.objs.size := by
  obtain ⟨j, hj⟩ := List.mem_iff_getElem?.mp ha
  obtain ⟨_, t, e⟩ := g.pairs j a hj
  exact Heap.lt_size e
end
section
variable {prog : Program} {w : World} {A : Around} {s : Shared} {R : Result → Shared → Prop} {items : Array Value}
theorem abe_loop {S I it l : Addr} (hh : A.handled = none) (hIS : I < S) (hlS : l ≠ S) (hlI : l ≠ I) (hlt' : l ≠ it) (hitS : it ≠ S) (hIt : I ≠ it) (hitI : it < I) (hn : items.size ≤ sizeLine) (res : Value) {h₁ : Heap}
    (hR : ∀ h' tk acc c as, (∀ b o, b ≠ S → b ≠ I → b ≠ it → h₁.get? b = some o → h'.get? b = some o) → h'.get? S = some { cls := .type "list", dict := none, data := .seq acc c, slots := #[] } → as.length = items.size → EnG items S h' as →
      acc.toList = as.map Value.ref → R (.ok (.ret res)) { s with heap := h', toks := tk }) :
    ∀ (k i : Nat) (h : Heap) (tk c : Nat) (acc : Array Value) (as : List Addr), items.size - i = k → i ≤ items.size → EnS h I it i S → h.IsListIter it l i → h.IsList l items → (∀ b o, b ≠ S → b ≠ I → b ≠ it → h₁.get? b = some o → h.get? b = some o) →
      h.get? S = some { cls := .type "list", dict := none, data := .seq acc c, slots := #[] } → acc.toList = as.map Value.ref → as.length = i → EnG items S h as → S < h.objs.size →
      codeAny (model prog w) A (.builtin "list.extend.loop" ⟨[.ref S, .ref I, res], []⟩) R { s with heap := h, toks := tk } := by
  have hne : S ≠ I := Nat.ne_of_gt hIS
  have hitS' : it < S := Nat.lt_trans hitI hIS
  intro k
  induction k with
  | zero =>
    intro i h tk c acc as hk hi hst hit hl hkeep hS hacc hal hG hIs
    have hin : i = items.size := by omega
    refine codeAny_builtin PySem.F.entry_extend_loop ?_
    rw [Around.under_plainId PySem.F.plain_extend_loop _]
    show wpAny _ A.in1 (pyNext (.ref I) >>= _) _ _ _
    refine wpAny_bind (abe_done (s := { s with heap := h, toks := tk }) (A := A.in1) hh hst hit hl (Array.getElem?_eq_none (by omega)) fun h' he => ?_)
    refine wpAny_pure (hR h' tk acc c as (fun b o h1 h2 h3 e => he b o h3 (hkeep b o h1 h2 h3 e)) (he S _ (Ne.symm hitS) hS) (by omega) ⟨hG.rise, hG.above, fun j a hj => ?_⟩ hacc)
    obtain ⟨hj', t, e3⟩ := hG.pairs j a hj
    exact ⟨hj', t, he a _ (Nat.ne_of_gt (Nat.lt_trans hitS' (hG.above a (List.mem_of_getElem? hj)))) e3⟩
  | succ k ih =>
    intro i h tk c acc as hk hi hst hit hl hkeep hS hacc hal hG hIs
    have hlt : i < items.size := by omega
    have hsz : acc.size = i := by rw [← Array.length_toList, hacc, List.length_map, hal]
    refine codeAny_builtin PySem.F.entry_extend_loop ?_
    rw [Around.under_plainId PySem.F.plain_extend_loop _]
    show wpAny _ A.in1 (pyNext (.ref I) >>= _) _ _ _
    refine wpAny_bind (abe_item (s := { s with heap := h, toks := tk }) (S := S) (x := items[i]) hst (Heap.lt_size hS) hit hl (by simp [hlt]) hIt fun h' hst' hit' ht hz hkp => ?_)
    dsimp only at ht hz hkp ⊢
    have hS' := hkp S _ hne (Ne.symm hitS) hS
    have up : ∀ b o, b ≠ S → h'.get? b = some o → (h'.update S (Obj.mapSeq (·.push (Value.ref h.objs.size)))).get? b = some o := fun b o hb e => (Heap.get?_update_other _ _ (Ne.symm hb)).trans e
    have hSl : S < h.objs.size := Heap.lt_size hS
    show wpAny _ A.in1 (updateSeq S (·.push (Value.ref h.objs.size)) >>= _) _ _ _
    refine wpAny_bind ?_
    refine wpAny_updateSeq hS' rfl (wpAny_pure ⟨plainId_quiet PySem.F.plain_extend_loop _, ih (i + 1) _ (tk + 1) _ (acc.push (Value.ref h.objs.size)) (as ++ [h.objs.size]) (by omega) hlt (hst'.keep up (Ne.symm hne)) ?_ ?_
      (fun b o h1 h2 h3 e => up b o h1 (hkp b o h2 h3 (hkeep b o h1 h2 h3 e))) (Heap.get?_update_self _ hS' rfl) (by rw [Array.toList_push, hacc, List.map_append]; rfl) (by rw [List.length_append, hal]; rfl) ⟨?_, ?_, ?_⟩ ?_⟩) (by rw [hsz]; omega) (by show (acc.push (Value.ref h.objs.size)).size ≤ sizeLine + 1; rw [Array.size_push, hsz]; omega)
    · obtain ⟨o, ho, r⟩ := hit'; exact ⟨o, up it o hitS ho, r⟩
    · obtain ⟨o, ho, r⟩ := hl; exact ⟨o, up l o hlS (hkp l o hlI hlt' ho), r⟩
    · refine List.pairwise_append.mpr ⟨hG.rise, List.pairwise_singleton _ _, fun a ha b hb => ?_⟩
      rw [List.mem_singleton.mp hb]
      exact hG.there ha
    · intro a ha
      rcases List.mem_append.mp ha with ha | ha
      · exact hG.above a ha
      · rw [List.mem_singleton.mp ha]; exact hIs
    · intro j b hj
      rcases Nat.lt_trichotomy j as.length with h1 | h1 | h1
      · rw [List.getElem?_append_left h1] at hj
        obtain ⟨hj', t, e3⟩ := hG.pairs j b hj
        have hb := hG.above b (List.mem_of_getElem? hj)
        exact ⟨hj', t, up b _ (Nat.ne_of_gt hb) (hkp b _ (Nat.ne_of_gt (Nat.lt_trans hIS hb)) (Nat.ne_of_gt (Nat.lt_trans hitS' hb)) e3)⟩
      · subst h1
        have hb : h.objs.size = b := by simpa using hj
        subst hb
        exact ⟨by omega, tk, by subst hal; exact up _ _ (Nat.ne_of_gt hSl) ht⟩
      · have hnone : (as ++ [h.objs.size])[j]? = none := List.getElem?_eq_none (by rw [List.length_append, List.length_singleton]; omega)
        rw [hnone] at hj; cases hj
    · have e : (h'.update S (Obj.mapSeq (·.push (Value.ref h.objs.size)))).get? h.objs.size = _ := up _ _ (Nat.ne_of_gt hSl) ht
      exact Nat.lt_trans hIs (Heap.lt_size e)
end
section
variable {prog : Program} {w : World} {A : Around} {E : Value → Shared → Prop} {s : Shared} {r it l : Addr} {items : Array Value}
theorem abe_call {Q : Value → Shared → Prop} (hh : A.handled = none) (he : IsEnum s.heap r it 0 .none) (hit : s.heap.IsListIter it l 0) (hl : s.heap.IsList l items) (hir : it < r) (hrit : l ≠ it) (hlr : l ≠ r) (hn : items.size ≤ sizeLine)
    (hQ : ∀ h' tk acc c as, (∀ b o, b ≠ r → b ≠ it → s.heap.get? b = some o → h'.get? b = some o) → h'.get? s.heap.objs.size = some { cls := .type "list", dict := none, data := .seq acc c, slots := #[] } → as.length = items.size → EnG items s.heap.objs.size h' as →
      acc.toList = as.map Value.ref → Q (.ref s.heap.objs.size) { s with heap := h', toks := tk }) :
    wpAny (model prog w) A (call (.type "list") [.ref r]) Q E s := by
  refine callType_codes (Q₁ := fun obj s₁ => obj = .ref s.heap.objs.size ∧ s₁ = { s with heap := s.heap.push { cls := .type "list", data := .seq #[] } }) PySem.F.called_list (PySem.F.typeCall_list_1 _) PySem.F.entry_list_init
    (code_list_new _ ⟨rfl, rfl⟩) fun obj s₁ h₁ => ?_
  obtain ⟨rfl, rfl⟩ := h₁
  have hS : (s.heap.push { cls := .type "list", data := .seq #[] }).get? s.heap.objs.size = some { cls := .type "list", data := .seq #[] } := Heap.get?_push_size _ rfl
  have hr : r < s.heap.objs.size := Heap.lt_size he
  have hll : l < s.heap.objs.size := let ⟨_, ho, _⟩ := hl; Heap.lt_size ho
  have hSr : s.heap.objs.size ≠ r := Nat.ne_of_gt hr
  refine ⟨⟨_, hS, rfl⟩, PySem.F.args_list_init_2 _ _, ?_⟩
  have he₁ : IsEnum (s.heap.push { cls := .type "list", data := .seq #[] }) r it 0 .none := Heap.get?_push_of_some _ he
  have hit₁ : (s.heap.push { cls := .type "list", data := .seq #[] }).IsListIter it l 0 := by obtain ⟨o, ho, q⟩ := hit; exact ⟨o, Heap.get?_push_of_some _ ho, q⟩
  have hl₁ : (s.heap.push { cls := .type "list", data := .seq #[] }).IsList l items := by obtain ⟨o, ho, q⟩ := hl; exact ⟨o, Heap.get?_push_of_some _ ho, q⟩
  show wpAny _ _ (do let old ← Builtin.List.listItems (.ref s.heap.objs.size); Builtin.List.listUpdate (.ref s.heap.objs.size) (fun _ => #[]); letGo old.toList.reverse; Builtin.List.listExtendWith (.ref s.heap.objs.size) (.ref r) .none) _ _ _
  refine wpAny_bind ?_
  unfold Builtin.List.listItems
  refine wpAny_bind (wpAny_seqItems hS rfl (wpAny_pure ?_))
  show wpAny _ _ (updateSeq s.heap.objs.size (fun _ => #[]) >>= fun _ => letGo (#[] : Array Value).toList.reverse >>= fun _ => Builtin.List.listExtendWith (.ref s.heap.objs.size) (.ref r) .none) _ _ _
  refine wpAny_bind (wpAny_updateSeq hS rfl ?_)
  have hS₂ := Heap.get?_update_self (Obj.mapSeq (fun _ => (#[] : Array Value))) hS rfl
  generalize hh0 : s.heap.push { cls := .type "list", data := .seq #[] } = h0 at hS he₁ hit₁ hl₁ hS₂ ⊢
  have k0 : ∀ b o, s.heap.get? b = some o → h0.get? b = some o := fun b o e => by rw [← hh0]; exact Heap.get?_push_of_some _ e
  have oth : ∀ b o, b ≠ s.heap.objs.size → h0.get? b = some o → (h0.update s.heap.objs.size (Obj.mapSeq (fun _ => (#[] : Array Value)))).get? b = some o :=
    fun b o hb e => (Heap.get?_update_other _ _ (Ne.symm hb)).trans e
  refine wpAny_bind (wpAny_letGo ?_)
  unfold Builtin.List.listExtendWith
  have hT : Shared.TypeIs { s with heap := h0.update s.heap.objs.size (Obj.mapSeq (fun _ => (#[] : Array Value))) } (.ref r) "enumerate" := ⟨_, oth r _ hSr.symm he₁, rfl⟩
  refine wpAny_bind (wpAny_typeOf (T := "enumerate") hT ?_)
  have h1 : Builtin.List.listSameRef (.ref s.heap.objs.size) (.ref r) = false := by simp [Builtin.List.listSameRef, hSr]
  have h2 : (Value.type "enumerate" == Value.type "list") = false := by decide
  have h3 : (Value.type "enumerate" == Value.type "tuple") = false := by decide
  simp only [h1, h2, h3, Bool.or_false, Bool.false_eq_true, if_false]
  have he₂ : IsEnum (h0.update s.heap.objs.size (Obj.mapSeq (fun _ => (#[] : Array Value)))) r it 0 .none := oth r _ hSr.symm he₁
  refine wpAny_bind (wpAny_pyIter_enum he₂ ?_)
  refine wpAny_bind (wpAny_holding ?_)
  unfold Builtin.List.listLengthHint
  refine wpAny_bind (wpAny_specialOf hT abe_len ?_)
  show wpAny _ _ (specialOf (Value.ref r) (Str.ofString "__length_hint__") >>= _) _ _ _
  refine wpAny_bind (wpAny_specialOf hT abe_hint ?_)
  refine wpAny_pure ?_
  show wpAny _ _ (rule "list.extend.makes-room" >>= fun _ => Builtin.List.listTouch (.ref s.heap.objs.size) >>= fun _ =>
    again (.builtin "list.extend.loop" ⟨[.ref s.heap.objs.size, .ref r, .none], []⟩)) _ _ _
  refine wpAny_bind (wpAny_rule ?_)
  refine wpAny_bind ?_
  show wpAny _ _ (updateSeq s.heap.objs.size (·.push .none) >>= fun _ => updateSeq s.heap.objs.size (·.pop)) _ _ _
  refine wpAny_bind (wpAny_updateSeq hS₂ rfl ?_)
  have hS₃ := Heap.get?_update_self (Obj.mapSeq (·.push Value.none)) hS₂ rfl
  refine wpAny_updateSeq (hz := by seq_fits) hS₃ rfl ?_
  have hS₄ := Heap.get?_update_self (Obj.mapSeq (·.pop)) hS₃ rfl
  have oth4 : ∀ b o, b ≠ s.heap.objs.size → h0.get? b = some o → (((h0.update s.heap.objs.size (Obj.mapSeq (fun _ => (#[] : Array Value)))).update s.heap.objs.size (Obj.mapSeq (·.push Value.none))).update s.heap.objs.size (Obj.mapSeq (·.pop))).get? b = some o :=
    fun b o hb e => (Heap.get?_update_other _ _ (Ne.symm hb)).trans ((Heap.get?_update_other _ _ (Ne.symm hb)).trans (oth b o hb e))
  have hSl : s.heap.objs.size < h0.objs.size := Heap.lt_size hS
  refine wpAny_pure ⟨plainId_quiet PySem.F.plain_extend_loop _, ?_⟩
  refine abe_loop (A := A.in1) (s := s) (S := s.heap.objs.size) (I := r) (it := it) (l := l) (items := items) (h₁ := h0) hh hr (Nat.ne_of_lt hll) hlr hrit (Nat.ne_of_lt (Nat.lt_trans hir hr)) (Nat.ne_of_gt hir) hir hn .none (fun h' tk acc c as hk hS' hlen hG hacc => ?_) items.size 0 _ s.toks _ #[] [] (Nat.sub_zero _) (Nat.zero_le _)
    (.inl ⟨.none, oth4 r _ hSr.symm he₁⟩) (by obtain ⟨o, ho, q⟩ := hit₁; exact ⟨o, oth4 it o (Nat.ne_of_lt (Nat.lt_trans hir hr)) ho, q⟩) (by obtain ⟨o, ho, q⟩ := hl₁; exact ⟨o, oth4 l o (Nat.ne_of_lt hll) ho, q⟩)
    (fun b o h1 _ _ e => oth4 b o h1 e) hS₄ rfl rfl ⟨List.Pairwise.nil, (fun _ ha => nomatch ha), (fun j a hj => by simp at hj)⟩ ?_
  · exact ⟨rfl, hQ h' tk acc c as (fun b o h1 h2 e => hk b o (Nat.ne_of_lt (Heap.lt_size e)) h1 h2 (k0 b o e)) hS' hlen hG hacc⟩
  · exact Heap.lt_size hS₄
end
end PySem.W
namespace AB
open PySem PySem.Spec
open PyProof.Rows hiding St
open L2
/-- the pairs of enumerate, by number -/
def enK (n : Nat) : List V → List (Key × V)
  | [] => []
  | x :: xs => (Sum.inl (n : Int), x) :: enK (n + 1) xs
theorem enK_len : ∀ (n : Nat) (xs : List V), (enK n xs).length = xs.length
  | _, [] => rfl
  | n, x :: xs => by rw [enK, List.length_cons, List.length_cons, enK_len]
theorem enK_get : ∀ (n : Nat) (xs : List V) (j : Nat) (q : Key × V), (enK n xs)[j]? = some q → ∃ x, xs[j]? = some x ∧ q = (Sum.inl ((n + j : Nat) : Int), x)
  | _, [], _, _, h => by simp [enK] at h
  | n, x :: xs, 0, q, h => by simp [enK] at h; exact ⟨x, rfl, h.symm⟩
  | n, x :: xs, j + 1, q, h => by
    obtain ⟨y, e1, e2⟩ := enK_get (n + 1) xs j q (by simpa [enK] using h)
    exact ⟨y, by simpa using e1, by rw [e2]; congr 2; omega⟩
def tLstEn (K : PySem.W.Frag) (te : TE) : TE := fun σ H Q => te σ H fun x H1 => ∃ (a : Addr) (xs : List V), x = .ref a ∧ SqL K H1 a xs ∧
  ∀ (H' : Hp) (p : Addr) (ts : List Addr), (∀ b o, H1 b = some o → H' b = some o) → H1 p = none → (∀ t ∈ ts, H1 t = none) → p ∉ ts → ts.Nodup → H' p = some (.lst (ts.map V.ref)) → ts.length = xs.length →
    (∀ (j : Nat) (t : Addr), ts[j]? = some t → ∃ x, xs[j]? = some x ∧ H' t = some (.tup [.int (j : Nat), x])) → Q (.ref p) H'
section
variable {X : Cx} {W : WX} {K : KW} {e : Expr} {te : TE} {p p2 pos pos2 : Pos}
theorem en_laid {pins : List (Addr × Obj)} {σ : L2.St} {H : Hp} {s s' : Shared} {xs : List V} {its : List Value} {acc : Array Value} {c : Nat} {as : List Addr} {S : Addr} (I : Inv X pins σ H s) (hos : s'.os = s.os) (hg : AllBare s'.gens) (hz : xs.length ≤ sizeLine) (rv : Vals xs its) (hSs : s.heap.objs.size ≤ S)
    (hk : ∀ b o, s.heap.get? b = some o → s'.heap.get? b = some o) (hS : s'.heap.get? S = some { cls := .type "list", dict := none, data := .seq acc c, slots := #[] }) (hl : as.length = its.length) (hG : PySem.W.EnG its.toArray S s'.heap as) (hacc : acc.toList = as.map Value.ref) :
    ∃ H' : Hp, (∀ b o, H b = some o → H' b = some o) ∧ H S = none ∧ (∀ t ∈ as, H t = none) ∧ S ∉ as ∧ as.Nodup ∧ H' S = some (.lst (as.map V.ref)) ∧ as.length = xs.length ∧
      (∀ (j : Nat) (t : Addr), as[j]? = some t → ∃ x, xs[j]? = some x ∧ H' t = some (.tup [.int (j : Nat), x])) ∧ Inv X pins σ H' s' := by
  have lk : xs.length = its.length := rv.length
  have hSn : S ∉ as := fun z => Nat.lt_irrefl _ (hG.above _ z)
  have nd : as.Nodup := List.Pairwise.imp (fun {a b} (h : a < b) => Nat.ne_of_lt h) hG.rise
  have new : ∀ t ∈ as, H t = none := fun t ht => I.hok.fresh (Nat.le_of_lt (Nat.lt_of_le_of_lt hSs (hG.above t ht)))
  have newS : H S = none := I.hok.fresh hSs
  have atP := LiI.putT_at as (enK 0 xs) (upd H S (.lst (as.map V.ref))) (by rw [enK_len]; omega) nd
  have off : ∀ b, b ∉ as → b ≠ S → LiI.putT (upd H S (.lst (as.map V.ref))) as (enK 0 xs) b = H b := fun b h1 h2 => by rw [LiI.putT_off as _ _ h1, upd_ne h2]
  have low : ∀ b o, s.heap.get? b = some o → b ∉ as ∧ b ≠ S := fun b o e => ⟨fun z => absurd (Heap.lt_size e) (Nat.not_lt.mpr (Nat.le_trans hSs (Nat.le_of_lt (hG.above b z)))), Nat.ne_of_lt (Nat.lt_of_lt_of_le (Heap.lt_size e) hSs)⟩
  have kp : ∀ b u, H b = some u → (LiI.putT (upd H S (.lst (as.map V.ref))) as (enK 0 xs)) b = some u := fun b u e => by
    rw [off b (fun z => by rw [new b z] at e; cases e) (fun z => by rw [z, newS] at e; cases e)]
    exact e
  have eS : LiI.putT (upd H S (.lst (as.map V.ref))) as (enK 0 xs) S = some (.lst (as.map V.ref)) := by rw [LiI.putT_off as _ _ hSn, upd_same]
  refine ⟨_, kp, newS, new, hSn, nd, eS, by omega, fun j t hj => ?_, ?_⟩
  · obtain ⟨q, e1, e2⟩ := LiI.paired_get atP hj
    obtain ⟨x, e3, e4⟩ := enK_get 0 xs j q e1
    subst e4
    exact ⟨x, e3, by rw [e2]; simp [kV]⟩
  refine I.call' (ch := []) hos ⟨fun b o q _ _ _ => hk b o q, fun b o q _ _ _ => ⟨o.slots, hk b o q⟩, fun b o q n _ => ?_, fun b o q _ => ⟨o, hk b o q⟩, fun b xs q => kp b _ q, fun b o u q => kp b _ q, fun b ps q => ⟨#[], by rw [kp b _ q]; simp⟩⟩ (fun b u q => ?_) hg fun b z => by simp at z
  · obtain ⟨z1, z2⟩ := low b o q
    rw [off b z1 z2]
    exact n
  · by_cases hb : b ∈ as
    · obtain ⟨j, pk, e1, e2, e3⟩ := LiI.paired_ix atP hb
      rw [e3] at q
      cases q
      obtain ⟨hj, t, f3⟩ := hG.pairs j b e1
      obtain ⟨x, g1, g2⟩ := enK_get 0 xs j pk e2
      subst g2
      obtain ⟨u, g3, g4⟩ := rv.get g1
      have eu : its.toArray[j] = u := by
        have : its[j]? = some its.toArray[j] := by simp at hj ⊢
        rw [g3] at this
        exact (Option.some.inj this).symm
      rw [eu] at f3
      exact ⟨by show 2 ≤ sizeLine; decide, [.int j t, u], .cons (by simp only [kV, Nat.zero_add]; exact ⟨t, rfl⟩) (.cons g4 .nil), ⟨_, f3, rfl, _, rfl⟩⟩
    · by_cases hb2 : b = S
      · rw [hb2] at q ⊢
        rw [eS] at q
        cases q
        refine ⟨by rw [List.length_map]; omega, acc.toList, c, by rw [hacc]; exact LiI.vals_refs as, ?_⟩
        rw [Array.toArray_toList]
        exact hS
      · rw [off b hb hb2] at q
        exact (I.hok b u q).stay (fun d v _ y => hk d v y) (fun d y => kp d _ y) fun d xs y => kp d _ y
theorem pe_lstEn (hc : X.calm = true) (he : PE X e te) (hg : Gl X "list") (hm : X.mg "list" = none) (hg2 : Gl X "enumerate") (hm2 : X.mg "enumerate" = none)
    (na : starEach [.Call (.Name "enumerate" p2) [e] [] pos2] X.env = (false, eval (.Call (.Name "enumerate" p2) [e] [] pos2) X.env) :: starEach [] X.env := by rfl) (na2 : starEach [e] X.env = (false, eval e X.env) :: starEach [] X.env := by rfl) :
    PE X (.Call (.Name "list" p) [.Call (.Name "enumerate" p2) [e] [] pos2] [] pos) (tLstEn X.K te) := by
  refine ⟨fun pins s σ H Q I h => ?_⟩
  refine Call_ (ld_blt I hg hm boot_list (PyProof.Rows.callWith_type1 (PyProof.Rows.args_cons ?_ na) na))
  refine Call_ (ld_blt I hg2 hm2 boot_enumerate ?_)
  refine PyProof.Rows.callWith_type1 (PyProof.Rows.args_cons (thn (he.run pins s σ H _ I h) fun v s1 ⟨x, H1, I1, r1, q1⟩ => PyProof.Rows.args_nil ?_) na2) na2 rfl
  obtain ⟨a, xs, rfl, hq, q⟩ := q1
  cases r1
  obtain ⟨its, rv, pl, hz⟩ := I1.list hq
  refine call_enumerate_list pl.isList fun h1 hE hit hsz hk1 => ?_
  refine PyProof.Rows.args_nil ?_
  obtain ⟨oL, hoL, hL1, hL2⟩ := pl.isList
  have hal : a < s1.heap.objs.size := Heap.lt_size hoL
  refine PySem.W.abe_call (items := its.toArray) (I1.ok.hd hc) hE hit ⟨oL, hk1 _ _ hoL, hL1, hL2⟩ (Nat.lt_succ_self _) (Nat.ne_of_lt hal) (Nat.ne_of_lt (Nat.lt_succ_of_lt hal)) (by simp only [List.size_toArray]; rw [← rv.length]; exact hz) fun h' tk acc c as hk hS hl hG hacc => ?_
  have hkk : ∀ b o, s1.heap.get? b = some o → h'.get? b = some o := fun b o e => hk b o (Nat.ne_of_lt (Nat.lt_succ_of_lt (Heap.lt_size e))) (Nat.ne_of_lt (Heap.lt_size e)) (hk1 b o e)
  obtain ⟨H', k1, k2, k3, k4, k5, k6, k7, k8, J⟩ := en_laid (s' := { s1 with heap := h', toks := tk }) I1 rfl I1.bare hz rv (by show s1.heap.objs.size ≤ h1.objs.size; omega) hkk hS (by rw [hl]; simp) hG hacc
  exact ⟨.ref _, H', J, rfl, q H' _ as k1 k2 k3 k4 k5 k6 k7 k8⟩
/-- list(enumerate(xs)) -/
def enP (n : Nat) : List PV → List PV
  | [] => []
  | x :: xs => .tup [.int (n : Nat), x] :: enP (n + 1) xs
theorem enP_len : ∀ (n : Nat) (xs : List PV), (enP n xs).length = xs.length
  | _, [] => rfl
  | n, x :: xs => by rw [enP, List.length_cons, List.length_cons, enP_len]
theorem enP_get : ∀ (n : Nat) (xs : List PV) (j : Nat) (x : PV), xs[j]? = some x → (enP n xs)[j]? = some (.tup [.int ((n + j : Nat) : Int), x])
  | _, [], _, _, h => by simp at h
  | n, y :: xs, 0, x, h => by simp at h; subst h; rfl
  | n, y :: xs, j + 1, x, h => by
    have q := enP_get (n + 1) xs j x (by simpa using h)
    rw [enP, List.getElem?_cons_succ, q]
    congr 4; omega
def aLstEn (m : AE) : AE := fun σ h => (m σ h).bind fun x h1 => match lstOf x h1 with
  | some xs => new (.lst (enP 0 xs)) h1
  | none => .stuck
theorem je_lstEn {m : AE} (hc : X.calm = true) (hm : X.mg "list" = none) (hm2 : X.mg "enumerate" = none) (he : JE X W e m) (hg : Gl X "list" := by rfl) (hg2 : Gl X "enumerate" := by rfl)
    (na : starEach [.Call (.Name "enumerate" p2) [e] [] pos2] X.env = (false, eval (.Call (.Name "enumerate" p2) [e] [] pos2) X.env) :: starEach [] X.env := by rfl) (na2 : starEach [e] X.env = (false, eval e X.env) :: starEach [] X.env := by rfl) :
    JE X W (.Call (.Name "list" p) [.Call (.Name "enumerate" p2) [e] [] pos2] [] pos) (aLstEn m) :=
  ⟨PEmono (pe_lstEn hc he.pe hg hm hg2 hm2 na na2) fun τ H Q ⟨ρ, h, σ, R, S, o⟩ => ⟨ρ, h, σ, R, S, (Out.bind (R := RV (cxKW X)) o).mono fun x H1 ⟨ρ1, v, h1, e1, R1, q1, o1⟩ => by
    split at o1
    · rename_i xs c
      obtain ⟨a, vs, rfl, s, q⟩ := lst_of R1 q1 c
      refine ⟨a, vs, rfl, s, fun H' p ts kp hp hts hpn nd hH hl hpr => ?_⟩
      have notin : ∀ t, H1 t = none → t ∉ ρ1 := fun t ht => R1.notin ht
      have x1 : Ext ρ1 H1 (ρ1 ++ [p]) H' := ⟨List.prefix_append _ _, fun b u e n => ⟨kp b u e, by
        rw [List.mem_append, List.mem_singleton]; rintro (z | z); exact n z; subst z; rw [hp] at e; cases e⟩, fun b ob u e => kp b _ e⟩
      have rvs : RVs (cxKW X) (ρ1 ++ [p]) H' (enP 0 xs) (ts.map V.ref) := by
        refine ⟨by rw [List.length_map, enP_len, hl, q.len], fun j y v ej ev => ?_⟩
        rw [List.getElem?_map] at ev
        cases ct : ts[j]? with
        | none => rw [ct] at ev; cases ev
        | some t =>
          rw [ct] at ev; cases ev
          obtain ⟨w, ew, hw⟩ := hpr j t ct
          have hj : j < xs.length := by rw [← q.len]; exact (List.getElem?_eq_some_iff.mp ew).1
          have ex : xs[j]? = some xs[j] := by simp [hj]
          rw [enP_get 0 xs j _ ex] at ej
          cases ej
          have rw' : RV (cxKW X) (ρ1 ++ [p]) H' xs[j] w := (q.at_ j _ _ ex ew).mono x1
          refine .tup [.int (j : Nat), w] (.inl ⟨.inl hw, ?_⟩) rfl (RVs.cons ?_ (RVs.cons rw' .nil)).at_
          · have ht := hts t (List.mem_of_getElem? ct)
            rw [List.mem_append, List.mem_singleton]
            rintro (z | z)
            · exact notin t ht z
            · exact hpn (z ▸ List.mem_of_getElem? ct)
          · rw [Nat.zero_add]; exact .int _
      refine o1 (ρ1 ++ [p]) H' (.ref p) x1 ⟨?_, by simp [R1.len], fun n a o en eo => ?_⟩ (.loc (by rw [← R1.len]; simp))
      · rw [List.nodup_append]
        exact ⟨R1.nd, by simp, fun a ha b hb z => by rw [List.mem_singleton] at hb; subst hb; subst z; exact notin _ hp ha⟩
      · by_cases hn : n < ρ1.length
        · rw [List.getElem?_append_left hn] at en
          rw [List.getElem?_append_left (by rw [← R1.len]; exact hn)] at eo
          refine (R1.obj n a o en eo).mono x1 ?_
          obtain ⟨u, eu⟩ := R1.here en
          rw [eu]; exact kp a u eu
        · rw [List.getElem?_append_right (by omega)] at en
          rw [List.getElem?_append_right (by rw [← R1.len]; omega), ← R1.len] at eo
          have e0 : n - ρ1.length = 0 := by
            have := (List.getElem?_eq_some_iff.mp en).1
            simp at this; omega
          rw [e0] at en eo
          simp at en eo
          subst en; subst eo
          exact ⟨_, hH, rvs⟩
    · exact o1.elim⟩⟩
end
end AB

/-! AB9: pairs stored at once, range with a step, len(set(..)), dicts, calls with keywords -/
namespace AB
open PySem PySem.Spec
open PyProof.Rows hiding St
open L2
section
variable {X : Cx} {W : WX} {K : KW}
/-! ### a, b = x, y -/
def sPar (i j : Nat) (l : AL) : AS := fun σ h => liftS (l σ h) σ fun xs h1 => match xs with
  | [x, y] => .fin .nx ((σ.set i (some x)).set j (some y)) h1
  | _ => .stuck
theorem js_par (i j : Nat) {x y : Str} {a b : Expr} {l : AL} {px py pt : Pos} {kt k2 : Nat} {pt2 pos : Pos} (hc : X.calm = true) (hN : X.N.Nodup) (ha : JA X W [a, b] l) (hi : X.N[i]? = some x := by rfl) (hj : X.N[j]? = some y := by rfl) (hij : i ≠ j := by decide)
    (hx : X.env.scope.names.lookup x = some .local := by rfl) (hy : X.env.scope.names.lookup y = some .local := by rfl)
    (hw : swappedStores [.Tuple [.Name x px, .Name y py] kt pt] (.Tuple [a, b] k2 pt2) X.env = pure (some [x, y]) := by rfl)
    (hs : swapsWithSole [.Tuple [.Name x px, .Name y py] kt pt] (.Tuple [a, b] k2 pt2) pos.line X.env = pure false := by rfl) :
    JS X W (.Assign [.Tuple [.Name x px, .Name y py] kt pt] (.Tuple [a, b] k2 pt2) pos) (sPar i j l) :=
  ⟨PSmono (ps_par (i := i) (j := j) hc hN hi hj hij hx hy ha.pa hw hs) fun D τ H ⟨ρ, h, σ, R, S, o⟩ => ⟨ρ, h, σ, R, S, (OutS.lift (R := RVs (cxKW X)) S o).mono fun vs H1 ⟨ρ1, xs, h1, e1, R1, q1, o1⟩ => by
    split at o1
    · obtain ⟨v, w, rfl, r1, r2⟩ := two_inv q1
      exact ⟨v, w, rfl, o1 ρ1 _ H1 .refl R1 (((S.mono e1).set i r1).set j r2)⟩
    · exact o1.elim⟩⟩
/-! ### range(a, b, c) -/
def itRc (lo c : Int) (n : Nat) : AI := ⟨n, fun i _ => if i < n then some (some (.int (lo + (i : Nat) * c))) else some none⟩
theorem aiok_rc {ρ0 : List Addr} {H0 : Hp} (lo c : Int) (n : Nat) : AIok K ρ0 H0 (itRc lo c n) (Itc lo c n) := fun i ρ h H e R => by
  unfold itRc
  dsimp only
  by_cases q : i < n
  · rw [if_pos q]
    exact ⟨q, fun v H' ⟨e1, e2⟩ => by subst e1; subst e2; exact ⟨.refl, R, .int _⟩⟩
  · rw [if_neg q]
    show n ≤ i
    omega
/-- steps of -1 -/
def aItR3 (l : AL) : AIt := fun σ h => (l σ h).bind fun xs h1 => match xs with
  | [.int i, .int j, .int c] => if c = -1 ∧ -(2 ^ 62) ≤ i ∧ i < 2 ^ 62 ∧ -(2 ^ 62) ≤ j ∧ j < 2 ^ 62 then .ok (itRc i c (i - j).toNat) h1 else .stuck
  | _ => .stuck
theorem ji_rg3 {tg a b c : Expr} {l : AL} {p pos : Pos} (hm : X.mg "range" = none) (ha : JA X W [a, b, c] l) (hg : Gl X "range" := by rfl) (hs : starEach [a, b, c] X.env = (false, eval a X.env) :: starEach [b, c] X.env := by rfl) (hpl : (backTo pos (starEach [b, c] X.env)).any (·.1) = false := by rfl) :
    JI X W tg (.Call (.Name "range" p) [a, b, c] [] pos) (aItR3 l) :=
  ⟨PImono (pi_range3 hg hm ha.pa hs hpl) fun τ H Rk ⟨ρ, h, σ, R, S, o⟩ => ⟨ρ, h, σ, R, S, (Out.bind (R := RVs (cxKW X)) o).mono fun x H1 ⟨ρ1, v, h1, e1, R1, q1, o1⟩ => by
    split at o1
    · rename_i i j c
      split at o1
      · rename_i q
        obtain ⟨w, t, rfl, r1, s⟩ := q1.cons_inv
        obtain ⟨w', w'', rfl, r2, r3⟩ := two_inv s
        obtain ⟨rfl, h1, h2, h3, h4⟩ := q
        exact ⟨i, j, -1, (i - j).toNat, by rw [r1.int_inv, r2.int_inv, r3.int_inv], RgC.neg h1 h2 h3 h4, Out.done o1 R1 (aiok_rc _ _ _)⟩
      · exact o1.elim
    · exact o1.elim⟩⟩
/-! ### len(set(xs)), ints -/
def dedI (ns : List Int) : List Int := ns.foldl (fun s k => if s.any (· == k) then s else s ++ [k]) []
theorem firstMet_ded (ns : List Int) : firstMet (fun i => ns.getD i 0) ns.length = dedI ns := by
  unfold firstMet dedI
  have e : (List.range ns.length).map (fun i => ns.getD i 0) = ns := by
    apply List.ext_getElem
    · simp
    · intro i h1 h2
      simp [List.getElem?_eq_getElem h2]
  rw [e]; rfl
def tLenSetI2 (K : PySem.W.Frag) (ta : TE) : TE := fun σ H Q => ta σ H fun x H1 => ∃ (l : Addr) (ns : List Int), x = V.ref l ∧ SqL K H1 l (ns.map V.int) ∧ ns.length < 64 ∧ Q (.int (dedI ns).length) H1
theorem pe_lenSetI2 {a : Expr} {ta : TE} {p p2 q pos : Pos} (hc : X.calm = true) (hg : Gl X "len") (hm : X.mg "len" = none) (hg2 : Gl X "set") (hm2 : X.mg "set" = none) (ha : PE X a ta)
    (na : starEach [a] X.env = (false, eval a X.env) :: starEach [] X.env := by rfl) : PE X (.Call (.Name "len" p) [.Call (.Name "set" p2) [a] [] q] [] pos) (tLenSetI2 X.K ta) := by
  refine ⟨fun pins s σ H Q I h => ?_⟩
  refine Call_ (ld_blt I hg hm PySem.boot_len ?_)
  refine PyProof.Rows.callWith_builtin1 (PyProof.Rows.args_cons ?_ rfl) rfl rfl
  refine Call_ (ld_blt I hg2 hm2 PyProof.Rows.boot_set ?_)
  refine PyProof.Rows.callWith_type1 (PyProof.Rows.args_cons (thn (ha.run pins s σ H _ I h) fun v s1 ⟨x, H1, I1, r1, q1⟩ => PyProof.Rows.args_nil ?_) na) na rfl
  obtain ⟨l, ns, rfl, hq, h1, q1⟩ := q1
  cases r1
  obtain ⟨its, r, pl, hz⟩ := I1.list hq
  have hl : its.toArray.size = ns.length := by rw [List.size_toArray, ← r.length, List.length_map]
  have hle : (dedI ns).length ≤ ns.length := by rw [← firstMet_ded]; exact firstMet_length_le _ _
  refine call_set_list (I1.ok.hd hc) pl.isList (ns := ns) (by simpa using r.ints) (by unfold scanBound; omega) fun h' tk hS hk => ?_
  rw [hl, firstMet_ded] at hS
  refine PyProof.Rows.args_nil ?_
  obtain ⟨o, es, ep, t, ho, hex, hd, _, _, _, hf, hn⟩ := hS
  have I2 : Inv X pins σ H1 { s1 with heap := h', toks := tk } := I1.kept fun b o e => hk b o (Heap.lt_size e) e
  refine call_len_set ho hex hd hf (by rw [hn] <;> omega) ⟨.int (dedI ns).length, H1, I2.tok _, ⟨_, by rw [hn]⟩, q1⟩
def aLenSet (m : AE) : AE := fun σ h => (m σ h).bind fun x h1 => match (lstOf x h1).bind intsOf with
  | some ns => if ns.length < 64 then .ok (.int (dedI ns).length) h1 else .stuck
  | none => .stuck
theorem je_lenSet {a : Expr} {m : AE} {p p2 q pos : Pos} (hc : X.calm = true) (hm : X.mg "len" = none) (hm2 : X.mg "set" = none) (ha : JE X W a m) (hg : Gl X "len" := by rfl) (hg2 : Gl X "set" := by rfl)
    (na : starEach [a] X.env = (false, eval a X.env) :: starEach [] X.env := by rfl) : JE X W (.Call (.Name "len" p) [.Call (.Name "set" p2) [a] [] q] [] pos) (aLenSet m) :=
  ⟨PEmono (pe_lenSetI2 hc hg hm hg2 hm2 ha.pe na) fun τ H Q ⟨ρ, h, σ, R, S, o⟩ => ⟨ρ, h, σ, R, S, (Out.bind (R := RV (cxKW X)) o).mono fun x H1 ⟨ρ1, v, h1, e1, R1, q1, o1⟩ => by
    split at o1
    · rename_i ns e
      split at o1
      · rename_i hz
        obtain ⟨p, rfl, s⟩ := ints_at R1 q1 e
        exact ⟨p, ns, rfl, s, hz, Out.done o1 R1 (.int _)⟩
      · exact o1.elim
    · exact o1.elim⟩⟩
/-! ### dicts by ints and texts -/
def keyP : PV → Option Key
  | .int i => some (.inl i)
  | .str x => some (.inr x)
  | _ => none
theorem keyP_of {ρ : List Addr} {H : Hp} {v : PV} {x : V} {k : Key} (e : keyP v = some k) (r : RV K ρ H v x) : x = kV k := by
  cases v <;> simp [keyP] at e
  · subst e; exact r.int_inv
  · subst e; exact r.str_inv
def valP {κ : Type} [DecidableEq κ] (kvs : List (κ × PV)) (k : κ) : Option PV := (kvs.find? fun kv => decide (kv.1 = k)).map (·.2)
def putP {κ : Type} [DecidableEq κ] (kvs : List (κ × PV)) (k : κ) (v : PV) : List (κ × PV) :=
  if (kvs.any fun kv => decide (kv.1 = k)) = true then kvs.map (fun kv => if kv.1 = k then (kv.1, v) else kv) else kvs ++ [(k, v)]
theorem RKV.nil {κ : Type} {ρ : List Addr} {H : Hp} : RKV K ρ H ([] : List (κ × PV)) [] := ⟨rfl, .nil⟩
theorem RKV.cons_inv {κ : Type} {ρ : List Addr} {H : Hp} {p : κ × PV} {kvs : List (κ × PV)} {vs : List (κ × V)} (r : RKV K ρ H (p :: kvs) vs) : ∃ v vs', vs = (p.1, v) :: vs' ∧ RV K ρ H p.2 v ∧ RKV K ρ H kvs vs' := by
  cases vs with
  | nil => have := r.keys; simp at this
  | cons q vs' =>
    have hk := r.keys
    simp only [List.map_cons, List.cons.injEq] at hk
    obtain ⟨v, t, e, q1, s⟩ := r.vals.cons_inv
    simp only [List.map_cons, List.cons.injEq] at e
    obtain ⟨e1, e2⟩ := e
    exact ⟨q.2, vs', by rw [← hk.1], by rw [e1]; exact q1, hk.2, by rw [e2]; exact s⟩
theorem RKV.cons {κ : Type} {ρ : List Addr} {H : Hp} {k : κ} {x : PV} {v : V} {kvs : List (κ × PV)} {vs : List (κ × V)} (q : RV K ρ H x v) (r : RKV K ρ H kvs vs) : RKV K ρ H ((k, x) :: kvs) ((k, v) :: vs) :=
  ⟨by simp [r.keys], .cons q r.vals⟩
theorem RKV.val {κ : Type} [DecidableEq κ] {ρ : List Addr} {H : Hp} (k : κ) : ∀ {kvs : List (κ × PV)} {vs : List (κ × V)}, RKV K ρ H kvs vs → (valP kvs k = none ∧ valV vs k = none) ∨ ∃ x v, valP kvs k = some x ∧ valV vs k = some v ∧ RV K ρ H x v
  | [], vs, r => by
    have : vs = [] := by have := r.keys; simpa using this
    subst this; exact .inl ⟨rfl, rfl⟩
  | p :: kvs, vs, r => by
    obtain ⟨v, vs', rfl, q, s⟩ := r.cons_inv
    unfold valP valV
    by_cases e : p.1 = k
    · rw [List.find?_cons_of_pos (by simp [e]), List.find?_cons_of_pos (by simp [e])]
      exact .inr ⟨_, _, rfl, rfl, q⟩
    · rw [List.find?_cons_of_neg (by simp [e]), List.find?_cons_of_neg (by simp [e])]
      exact RKV.val k s
theorem RKV.any {κ : Type} [DecidableEq κ] {ρ : List Addr} {H : Hp} (k : κ) : ∀ {kvs : List (κ × PV)} {vs : List (κ × V)}, RKV K ρ H kvs vs → (vs.any fun kv => decide (kv.1 = k)) = (kvs.any fun kv => decide (kv.1 = k))
  | [], vs, r => by
    have : vs = [] := by have := r.keys; simpa using this
    subst this; rfl
  | p :: kvs, vs, r => by
    obtain ⟨v, vs', rfl, q, s⟩ := r.cons_inv
    rw [List.any_cons, List.any_cons, RKV.any k s]
theorem RKV.len {κ : Type} {ρ : List Addr} {H : Hp} {kvs : List (κ × PV)} {vs : List (κ × V)} (r : RKV K ρ H kvs vs) : vs.length = kvs.length := by
  have := congrArg List.length r.keys; simpa using this
theorem RKV.mapped {κ : Type} [DecidableEq κ] {ρ : List Addr} {H : Hp} (k : κ) {x : PV} {v : V} (q : RV K ρ H x v) : ∀ {kvs : List (κ × PV)} {vs : List (κ × V)}, RKV K ρ H kvs vs → RKV K ρ H (kvs.map fun kv => if kv.1 = k then (kv.1, x) else kv) (vs.map fun kv => if kv.1 = k then (kv.1, v) else kv)
  | [], vs, r => by
    have : vs = [] := by have := r.keys; simpa using this
    subst this; exact .nil
  | p :: kvs, vs, r => by
    obtain ⟨w, vs', rfl, q2, s⟩ := r.cons_inv
    rw [List.map_cons, List.map_cons]
    by_cases e : p.1 = k
    · simp only [e, if_true]; exact .cons q (RKV.mapped k q s)
    · simp only [e, if_false]; exact .cons q2 (RKV.mapped k q s)
theorem RKV.snoc {κ : Type} {ρ : List Addr} {H : Hp} {k : κ} {x : PV} {v : V} (q : RV K ρ H x v) {kvs : List (κ × PV)} {vs : List (κ × V)} (r : RKV K ρ H kvs vs) : RKV K ρ H (kvs ++ [(k, x)]) (vs ++ [(k, v)]) :=
  ⟨by simp [r.keys], by
    rw [List.map_append, List.map_append]; exact r.vals.append (.cons q .nil)⟩
theorem RKV.put {κ : Type} [DecidableEq κ] {ρ : List Addr} {H : Hp} {k : κ} {x : PV} {v : V} {kvs : List (κ × PV)} {vs : List (κ × V)} (r : RKV K ρ H kvs vs) (q : RV K ρ H x v) : RKV K ρ H (putP kvs k x) (putK vs k v) := by
  unfold putP putK
  rw [r.any k]
  split
  · exact r.mapped k q
  · exact .snoc q r
theorem loc_dK {ρ : List Addr} {h : AH} {H : Hp} {n : Nat} {x : V} {kvs : List (Key × PV)} (R : Rep K ρ h H) (r : RV K ρ H (.loc n) x) (e : h[n]? = some (.dK kvs)) : ∃ p vs, x = .ref p ∧ ρ[n]? = some p ∧ H p = some (.dK vs) ∧ RKV K ρ H kvs vs := by
  obtain ⟨p, rfl, ep⟩ := r.loc_inv
  obtain ⟨vs, e1, q⟩ := R.obj n p _ ep e
  exact ⟨p, vs, rfl, ep, e1, q⟩
def fDget : F2
  | .loc n, k, h => match h[n]?, keyP k with
    | some (.dK kvs), some key => match valP kvs key with
      | some v => .ok v h
      | none => .stuck
    | _, _ => .stuck
  | _, _, _ => .stuck
theorem je_dget {o i : Expr} {mo mi : AE} {pos : Pos} (hu : X.A.units + 1 < cLine) (ho : JE X W o mo) (hi : JE X W i mi) (hs : NoSl i := by exact fun _ _ => rfl) : JE X W (.Subscript o i pos) (aOp fDget mo mi) :=
  ⟨PEmono (pe_dget hu ho.pe hi.pe hs) fun τ H Q ⟨ρ, h, σ, R, S, o⟩ => ⟨ρ, h, σ, R, S, (Out.bind (R := RV (cxKW X)) o).mono fun x H1 ⟨ρ1, v, h1, e1, R1, q1, o1⟩ => ⟨ρ1, h1, σ, R1, S.mono e1, (Out.bind (R := RV (cxKW X)) o1).mono fun y H2 ⟨ρ2, u, h2, e2, R2, q2, o2⟩ => by
    unfold fDget at o2
    split at o2
    · rename_i n
      split at o2
      · rename_i kvs key eh ek
        split at o2
        · rename_i v ev
          obtain ⟨p, vs, rfl, ep, eH, r⟩ := loc_dK R2 (q1.mono e2) eh
          have ey := keyP_of ek q2
          subst ey
          rcases r.val key with ⟨z, _⟩ | ⟨x', v', z1, z2, z3⟩
          · rw [ev] at z; cases z
          · rw [ev] at z1; cases z1
            exact ⟨p, v', rfl, by rw [← z2]; exact .k eH, Out.done o2 R2 z3⟩
        · exact o2.elim
      · exact o2.elim
    · exact o2.elim⟩⟩⟩
def fDin : F2
  | k, .loc n, h => match h[n]?, keyP k with
    | some (.dK kvs), some key => .ok (.bl (valP kvs key).isSome) h
    | _, _ => .stuck
  | _, _, _ => .stuck
def fDnin : F2
  | k, .loc n, h => match h[n]?, keyP k with
    | some (.dK kvs), some key => .ok (.bl (!(valP kvs key).isSome)) h
    | _, _ => .stuck
  | _, _, _ => .stuck
theorem le_din {mo mi : AE} {τ : St} {H : Hp} {Q : VK} (o : LE K W (aOp fDin mi mo) τ H Q) : tDIn (LE K W mi) (LE K W mo) τ H Q := by
  obtain ⟨ρ, h, σ, R, S, o⟩ := o
  refine ⟨ρ, h, σ, R, S, (Out.bind (R := RV K) o).mono fun y H1 ⟨ρ1, u, h1, e1, R1, q1, o1⟩ => ⟨ρ1, h1, σ, R1, S.mono e1, (Out.bind (R := RV K) o1).mono fun x H2 ⟨ρ2, v, h2, e2, R2, q2, o2⟩ => ?_⟩⟩
  unfold fDin at o2
  split at o2
  · split at o2
    · rename_i kvs key eh ek
      obtain ⟨p, vs, rfl, ep, eH, r⟩ := loc_dK R2 q2 eh
      have ey := keyP_of ek (q1.mono e2)
      subst ey
      refine ⟨p, _, rfl, .k eH, ?_⟩
      have es : (valV vs key).isSome = (valP kvs key).isSome := by
        rcases r.val key with ⟨z1, z2⟩ | ⟨x', v', z1, z2, z3⟩
        · rw [z1, z2]; rfl
        · rw [z1, z2]; rfl
      rw [es]
      exact Out.done o2 R2 (.bl _)
    · exact o2.elim
  · exact o2.elim
theorem le_dnin {mo mi : AE} {τ : St} {H : Hp} {Q : VK} (o : LE K W (aOp fDnin mi mo) τ H Q) : tDNotIn (LE K W mi) (LE K W mo) τ H Q := by
  obtain ⟨ρ, h, σ, R, S, o⟩ := o
  refine ⟨ρ, h, σ, R, S, (Out.bind (R := RV K) o).mono fun y H1 ⟨ρ1, u, h1, e1, R1, q1, o1⟩ => ⟨ρ1, h1, σ, R1, S.mono e1, (Out.bind (R := RV K) o1).mono fun x H2 ⟨ρ2, v, h2, e2, R2, q2, o2⟩ => ?_⟩⟩
  unfold fDnin at o2
  split at o2
  · split at o2
    · rename_i kvs key eh ek
      obtain ⟨p, vs, rfl, ep, eH, r⟩ := loc_dK R2 q2 eh
      have ey := keyP_of ek (q1.mono e2)
      subst ey
      refine ⟨p, _, rfl, .k eH, ?_⟩
      have es : (valV vs key).isSome = (valP kvs key).isSome := by
        rcases r.val key with ⟨z1, z2⟩ | ⟨x', v', z1, z2, z3⟩
        · rw [z1, z2]; rfl
        · rw [z1, z2]; rfl
      rw [es]
      exact Out.done o2 R2 (.bl _)
    · exact o2.elim
  · exact o2.elim
theorem je_din {o i : Expr} {mo mi : AE} {pos : Pos} (hu : X.A.units + 1 < cLine) (hi : JE X W i mi) (ho : JE X W o mo) (hm : behindInMarks .In o = false := by with_unfolding_all rfl) : JE X W (.Compare i [.In] [o] pos) (aOp fDin mi mo) :=
  ⟨PEmono (pe_cmp (pc_din hu hi.pe ho.pe) hm) fun τ H Q o => le_din o⟩
theorem je_dnin {o i : Expr} {mo mi : AE} {pos : Pos} (hu : X.A.units + 1 < cLine) (hi : JE X W i mi) (ho : JE X W o mo) (hm : behindInMarks .NotIn o = false := by with_unfolding_all rfl) : JE X W (.Compare i [.NotIn] [o] pos) (aOp fDnin mi mo) :=
  ⟨PEmono (pe_cmp (pc_dnotin hu hi.pe ho.pe) hm) fun τ H Q o => le_dnin o⟩
theorem jt_din {o i : Expr} {mo mi : AE} {pos : Pos} (hu : X.A.units + 1 < cLine) (hi : JE X W i mi) (ho : JE X W o mo) (hm : behindInMarks .In o = false := by with_unfolding_all rfl) : JT X W (.Compare i [.In] [o] pos) (aB (aOp fDin mi mo)) :=
  ⟨PTmono (pt_cmp (pc_din hu hi.pe ho.pe) hm) fun τ H Q o => by
    obtain ⟨ρ, h, σ, R, S, o'⟩ := le_b o
    exact le_din ⟨ρ, h, σ, R, S, o'⟩⟩
theorem jt_dnin {o i : Expr} {mo mi : AE} {pos : Pos} (hu : X.A.units + 1 < cLine) (hi : JE X W i mi) (ho : JE X W o mo) (hm : behindInMarks .NotIn o = false := by with_unfolding_all rfl) : JT X W (.Compare i [.NotIn] [o] pos) (aB (aOp fDnin mi mo)) :=
  ⟨PTmono (pt_cmp (pc_dnotin hu hi.pe ho.pe) hm) fun τ H Q o => by
    obtain ⟨ρ, h, σ, R, S, o'⟩ := le_b o
    exact le_dnin ⟨ρ, h, σ, R, S, o'⟩⟩
def aDnew : AE := fun _ h => new (.dK []) h
theorem new_dK {ρ : List Addr} {h : AH} {H : Hp} {τ : St} {Q : VK} {xs : List (Key × PV)} {vs : List (Key × V)} (R : Rep K ρ h H) (r : RKV K ρ H xs vs) (o : OutE K W ρ τ H (new (.dK xs) h) Q) : ∀ p, H p = none → Q (.ref p) (upd H p (.dK vs)) := fun p hp => by
  refine o (ρ ++ [p]) (upd H p (.dK vs)) (.ref p) (.push hp) (R.push hp ⟨vs, upd_same, r.mono (.push hp)⟩) (.loc ?_)
  rw [← R.len]; simp
theorem je_dnew {pos : Pos} : JE X W (.Dict [] [] pos) aDnew := ⟨PEmono pe_dnewK fun τ H Q ⟨ρ, h, σ, R, S, o⟩ => new_dK R .nil o⟩
/-- d[k] = v -/
def sDput (mo mi mv : AE) : AS := fun σ h => liftS (mv σ h) σ fun v h1 => liftS (mo σ h1) σ fun d h2 => liftS (mi σ h2) σ fun k h3 => match d with
  | .loc n => match h3[n]?, keyP k with
    | some (.dK kvs), some key => if kvs.length < sizeLine then .fin .nx σ (h3.set n (.dK (putP kvs key v))) else .stuck
    | _, _ => .stuck
  | _ => .stuck
theorem js_dput {o i e : Expr} {mo mi mv : AE} {pos pos' : Pos} (hu : X.A.units + 1 < cLine) (ho : JE X W o mo) (hi : JE X W i mi) (hv : JE X W e mv) (hs : swapsWith e (some (.Subscript o i pos')) pos.line X.env = pure false := by rfl) : JS X W (.Assign [.Subscript o i pos'] e pos) (sDput mo mi mv) :=
  ⟨PSmono (ps_dput hu ho.pe hi.pe hv.pe hs) fun D τ H ⟨ρ, h, σ, R, S, o⟩ => ⟨ρ, h, σ, R, S, (OutS.lift (R := RV (cxKW X)) S o).mono fun x H1 ⟨ρ1, v, h1, e1, R1, q1, o1⟩ =>
    ⟨ρ1, h1, σ, R1, S.mono e1, (OutS.lift (R := RV (cxKW X)) (S.mono e1) o1).mono fun y H2 ⟨ρ2, d, h2, e2, R2, q2, o2⟩ =>
    ⟨ρ2, h2, σ, R2, (S.mono e1).mono e2, (OutS.lift (R := RV (cxKW X)) ((S.mono e1).mono e2) o2).mono fun z H3 ⟨ρ3, k, h3, e3, R3, q3, o3⟩ => by
      split at o3
      · rename_i n
        split at o3
        · rename_i kvs key eh ek
          split at o3
          · rename_i hz
            obtain ⟨p, vs, rfl, ep, eH, r⟩ := loc_dK R3 (q2.mono e3) eh
            have ey := keyP_of ek q3
            subst ey
            have rx := (q1.mono e2).mono e3
            have x4 : Ext ρ3 H3 ρ3 (upd H3 p (.dK (putK vs key x))) := .write ep (nfK eH)
            exact ⟨p, _, rfl, .k eH (by rw [r.len]; exact hz), o3 ρ3 τ _ x4 (R3.write (u := .dK (putP kvs key v)) ep (nfK eH) ⟨_, upd_same, (r.put rx).mono x4⟩) ((((S.mono e1).mono e2).mono e3).mono x4)⟩
          · exact o3.elim
        · exact o3.elim
      · exact o3.elim⟩⟩⟩⟩
/-- {k: v} -/
def aDict1 (mk mv : AE) : AE := fun σ h => (mk σ (h ++ [.dK []])).bind fun k h1 => (mv σ h1).bind fun v h2 => match keyP k, h2[h.length]? with
  | some key, some (.dK []) => .ok (.loc h.length) (h2.set h.length (.dK [(key, v)]))
  | _, _ => .stuck
theorem je_dict1 {k v : Expr} {mk mv : AE} {pos : Pos} (hk : JE X W k mk) (hv : JE X W v mv) : JE X W (.Dict [some k] [v] pos) (aDict1 mk mv) :=
  ⟨PEmono (pe_disp (pps_cons hk.pe hv.pe pps_nil) rfl rfl (by simp) (by simp)) fun τ H Q ⟨ρ, h, σ, R, S, o⟩ => by
    intro D hD
    have x1 : Ext ρ H (ρ ++ [D]) (upd H D (.dK [])) := .push hD
    have R1 : Rep (cxKW X) (ρ ++ [D]) (h ++ [.dK []]) (upd H D (.dK [])) := R.push hD ⟨[], upd_same, .nil⟩
    have ed : (ρ ++ [D])[h.length]? = some D := by rw [← R.len]; simp
    refine ⟨ρ ++ [D], _, σ, R1, S.mono x1, (Out.bind (R := RV (cxKW X)) (Out.later o x1)).mono fun y H2 ⟨ρ2, u, h2, e2, R2, q2, o2⟩ => ?_⟩
    refine ⟨ρ2, h2, σ, R2, (S.mono x1).mono e2, (Out.bind (R := RV (cxKW X)) o2).mono fun z H3 ⟨ρ3, w, h3, e3, R3, q3, o3⟩ => ?_⟩
    split at o3
    · rename_i key ek eh
      have ep := (e2.trans e3).get ed
      obtain ⟨p, vs, ep', e4, eH, r⟩ := loc_dK R3 (.loc ep) eh
      cases ep'
      have ev : vs = [] := by have := r.keys; simpa using this
      subst ev
      have ey := keyP_of ek (q2.mono e3)
      subst ey
      refine ⟨eH, [(key, z)], rfl, by simp, ?_⟩
      have x4 : Ext ρ3 H3 ρ3 (upd H3 D (.dK [(key, z)])) := .write ep (nfK eH)
      exact o3 ρ3 _ (.ref D) x4 (R3.write (u := .dK [(key, w)]) ep (nfK eH) ⟨[(key, z)], upd_same, .cons (q3.mono x4) .nil⟩) (.loc ep)
    · exact o3.elim⟩
/-! ### calls with keywords -/
def kwG {α : Type} (n m : Nat) (perm : List Nat) (us ws : List α) : List α := if us.length = n ∧ ws.length = m then perm.filterMap (fun i => (us ++ ws)[i]?) else []
structure KB (K : PySem.W.Frag) (fd : FuncData) (ps ks : List Str) (n : Nat) (perm : List Nat) : Prop where
  to : ∀ (s : Shared) (us ws : List Value), K.In s.heap → us.length = n → ws.length = ks.length → BindsTo s fd ⟨us, ks.zip ws⟩ (ps.zip (kwG n ks.length perm us ws))
theorem RVs_kw {α : Type} {xs ys : List V} {us ws : List Value} {n m : Nat} {perm : List Nat} (r : Vals xs us) (s : Vals ys ws) : Vals (kwG n m perm xs ys) (kwG n m perm us ws) := by
  unfold kwG
  rw [r.length, s.length]
  split
  · have t := r.append s
    induction perm with
    | nil => exact .nil
    | cons i perm ih =>
      rw [List.filterMap_cons, List.filterMap_cons]
      cases c : (xs ++ ys)[i]? with
      | none =>
        rw [Vals.none_of t c]
        exact ih
      | some v =>
        obtain ⟨u, eu, ru⟩ := Vals.get t c
        rw [eu]
        exact .cons ru ih
  · exact .nil
theorem KB.binds {K : PySem.W.Frag} {fd : FuncData} {ps ks : List Str} {n : Nat} {perm : List Nat} (b : KB K fd ps ks n perm) (hp : ps ≠ []) : KBinds K fd ps ks (kwG n ks.length perm) (kwG n ks.length perm) where
  to := fun s us ws hK hl => by
    by_cases c : us.length = n ∧ ws.length = ks.length
    · exact b.to s us ws hK c.1 c.2
    · unfold kwG at hl
      rw [if_neg c] at hl
      exact absurd (List.eq_nil_of_length_eq_zero hl.symm) hp
  rel := fun r s => RVs_kw (α := Unit) r s
theorem RVs.kw {ρ : List Addr} {H : Hp} {xs ys : List PV} {vs ws : List V} {n m : Nat} {perm : List Nat} (r : RVs K ρ H xs vs) (s : RVs K ρ H ys ws) : RVs K ρ H (kwG n m perm xs ys) (kwG n m perm vs ws) := by
  unfold kwG
  rw [r.len, s.len]
  split
  · have t := r.append s
    induction perm with
    | nil => exact .nil
    | cons i perm ih =>
      rw [List.filterMap_cons, List.filterMap_cons]
      cases c : (xs ++ ys)[i]? with
      | none =>
        have : (vs ++ ws)[i]? = none := by
          rw [List.getElem?_eq_none_iff] at c ⊢
          have := t.len; omega
        rw [this]
        exact ih
      | some v =>
        obtain ⟨u, eu, ru⟩ := t.get c
        rw [eu]
        exact .cons ru ih
  · exact .nil
structure JK (X : Cx) (W : WX) (kws : List Keyword) (m : AL) : Prop where
  pk : PK X kws (LL (cxKW X) W m)
theorem PKmono {e : List Keyword} {t t' : TA} (p : PK X e t) (i : ∀ σ H Q, t' σ H Q → t σ H Q) : PK X e t' := ⟨fun pos pins s σ H Q I h => p.run pos pins s σ H Q I (i σ H Q h)⟩
theorem jk_nil : JK X W [] aNil := ⟨PKmono pk_nil fun τ H Q ⟨ρ, h, σ, R, S, o⟩ => Out.done o R RVs.nil⟩
theorem jk_cons {nm : Option Str} {kpos : Pos} {e : Expr} {kws : List Keyword} {m : AE} {r : AL} (ha : JE X W e m) (hr : JK X W kws r) : JK X W (⟨nm, e, kpos⟩ :: kws) (aCons m r) :=
  ⟨PKmono (pk_cons ha.pe hr.pk) fun τ H Q ⟨ρ, h, σ, R, S, o⟩ => ⟨ρ, h, σ, R, S, (Out.bind (R := RV (cxKW X)) o).mono fun x H1 ⟨ρ1, v, h1, e1, R1, q1, o1⟩ =>
    ⟨ρ1, h1, σ, R1, S.mono e1, (Out.bind (R := RVs (cxKW X)) o1).mono fun xs H2 ⟨ρ2, vs, h2, e2, R2, q2, o2⟩ => Out.done o2 R2 (.cons (q1.mono e2) q2)⟩⟩⟩
/-- no exception is let out -/
def noX {α : Type} : Res α → Res α
  | .exc _ _ _ => .stuck
  | r => r
def aCallK (n nk np : Nat) (perm : List Nat) (m : FN) (l lk : AL) : AE := fun σ h => (l σ h).bind fun xs h1 => (lk σ h1).bind fun ys h2 => if (kwG np nk perm xs ys).length = n then noX (m (kwG np nk perm xs ys) h2) else .stuck
theorem OutF.noX {ρ : List Addr} {H : Hp} {τ : St} {r : Res PV} {Q : VK} {E : XK} (o : OutE K W ρ τ H (noX r) Q) : OutF K ρ H r Q E := by
  cases r with
  | ok v h => exact o
  | exc c fs h => exact o.elim
  | stuck => exact o
theorem pass_none (tk : Takes X W) : Passes (L2.CX X.prog X.w) X (fun _ _ _ => False) := passes_call tk fun _ _ _ _ h => h.elim
theorem je_callK {P : Program} {w : World} {K : PySem.W.Frag} {mg : Str → Option Value} {base : Heap} {A : Around} {k : Nat} {f : Addr} {fd : FuncData} {ps ks : List Str} {np : Nat} {perm : List Nat} {m : FN} {l lk : AL} {x : Str} {p pos : Pos} {e : Expr} {es : List Expr} {kws : List Keyword} (F : FnA P w K mg base k f fd ps m) (hr : Room k A) (hm : mg x = some (.ref f)) (hk : PySem.W.keepIn K (.ref f) = true) (hb : KB K fd ps ks np perm) (tk : Takes X W)
    (ha : JA X W (e :: es) l) (hkw : JK X W kws lk) (ci : CxIs X P w K mg base A := by exact ⟨rfl, rfl, rfl, rfl, rfl, rfl⟩) (hp : ps ≠ [] := by exact List.cons_ne_nil _ _) (hg : Gl X x := by rfl) (hall : (backToKw pos (keywordEach kws X.env)).all (·.1.isSome) = true := by rfl) (hks : (backToKw pos (keywordEach kws X.env)).filterMap (·.1) = ks := by rfl)
    (hdb : (x == ("__debug__" : Str)) = false := by decide) (he : starEach (e :: es) X.env = (false, eval e X.env) :: starEach es X.env := by rfl)
    (hpl : ((backTo pos (starEach (e :: es) X.env)).any (·.1) || (backToKw pos (keywordEach kws X.env)).any (·.1.isNone)) = false := by rfl) :
    JE X W (.Call (.Name x p) (e :: es) kws pos) (aCallK ps.length ks.length np perm m l lk) := by
  obtain ⟨rfl, rfl, rfl, rfl, rfl, rfl⟩ := ci
  exact ⟨PEmono (pe_callK F.ok hr hg hm hk (hb.binds hp) (pass_none tk) ha.pa hkw.pk hall hks hdb he hpl) fun τ H Q ⟨ρ, h, σ, R, S, o⟩ => ⟨ρ, h, σ, R, S, (Out.bind (R := RVs (cxKW X)) o).mono fun vs H1 ⟨ρ1, xs, h1, e1, R1, q1, o1⟩ =>
    ⟨ρ1, h1, σ, R1, S.mono e1, (Out.bind (R := RVs (cxKW X)) o1).mono fun ws H2 ⟨ρ2, ys, h2, e2, R2, q2, o2⟩ => by
      split at o2
      · rename_i hx
        have r := RVs.kw (n := np) (m := ks.length) (perm := perm) (q1.mono e2) q2
        exact ⟨by rw [r.len]; exact hx, ρ2, h2, _, R2, r, OutF.noX o2⟩
      · exact o2.elim⟩⟩⟩
theorem pe_callK0 {CX : CXT} {k : Nat} {f : Addr} {fd : FuncData} {ps ks : List Str} {sp : Sp} {E : XK} {x : Str} {p pos : Pos} {kws : List Keyword} {tk : TA} {g : List Value → List Value → List Value} {gV : List V → List V → List V} (F : FnOk X.prog X.w X.K X.mg X.base CX k f fd ps sp) (hr : Room k X.A) (hg : Gl X x) (hm : X.mg x = some (.ref f)) (hk : PySem.W.keepIn X.K (.ref f) = true) (hb : KBinds X.K fd ps ks g gV) (hx : Passes CX X E)
    (hkw : PK X kws tk) (hall : (backToKw pos (keywordEach kws X.env)).all (·.1.isSome) = true := by rfl) (hks : (backToKw pos (keywordEach kws X.env)).filterMap (·.1) = ks := by rfl)
    (hdb : (x == ("__debug__" : Str)) = false := by decide) (hpl : ((backTo pos (starEach [] X.env)).any (·.1) || (backToKw pos (keywordEach kws X.env)).any (·.1.isNone)) = false := by rfl) :
    PE X (.Call (.Name x p) [] kws pos) (tCallK sp gV E tNil tk) := by
  refine ⟨fun pins s σ H Q I h => ?_⟩
  refine wpAny_Call_Name_kw (ld_glob I hg hm ?_ hdb)
  refine PySem.W.callWith_KW0 (h₀ := X.base) I.ok.mod.kin hk hall (thn (hkw.run pos pins s σ H _ I h) fun ws s2 ⟨zs, H2, I2, rz, q2⟩ => ⟨I2.kIn, ?_⟩) hpl
  rw [hks]
  exact run_fnk (us := []) F hr hb hx I2 .nil rz q2
theorem je_callK0 {P : Program} {w : World} {K : PySem.W.Frag} {mg : Str → Option Value} {base : Heap} {A : Around} {k : Nat} {f : Addr} {fd : FuncData} {ps ks : List Str} {perm : List Nat} {m : FN} {lk : AL} {x : Str} {p pos : Pos} {kws : List Keyword} (F : FnA P w K mg base k f fd ps m) (hr : Room k A) (hm : mg x = some (.ref f)) (hk : PySem.W.keepIn K (.ref f) = true) (hb : KB K fd ps ks 0 perm) (tk : Takes X W)
    (hkw : JK X W kws lk) (ci : CxIs X P w K mg base A := by exact ⟨rfl, rfl, rfl, rfl, rfl, rfl⟩) (hp : ps ≠ [] := by exact List.cons_ne_nil _ _) (hg : Gl X x := by rfl) (hall : (backToKw pos (keywordEach kws X.env)).all (·.1.isSome) = true := by rfl) (hks : (backToKw pos (keywordEach kws X.env)).filterMap (·.1) = ks := by rfl)
    (hdb : (x == ("__debug__" : Str)) = false := by decide) (hpl : ((backTo pos (starEach [] X.env)).any (·.1) || (backToKw pos (keywordEach kws X.env)).any (·.1.isNone)) = false := by rfl) :
    JE X W (.Call (.Name x p) [] kws pos) (aCallK ps.length ks.length 0 perm m aNil lk) := by
  obtain ⟨rfl, rfl, rfl, rfl, rfl, rfl⟩ := ci
  exact ⟨PEmono (pe_callK0 F.ok hr hg hm hk (hb.binds hp) (pass_none tk) hkw.pk hall hks hdb hpl) fun τ H Q ⟨ρ, h, σ, R, S, o⟩ => ⟨ρ, h, σ, R, S, by
    have o1 : OutE (cxKW X) W ρ τ H ((lk σ h).bind fun ys h2 => if (kwG 0 ks.length perm [] ys).length = ps.length then noX (m (kwG 0 ks.length perm [] ys) h2) else .stuck) Q := o
    refine (Out.bind (R := RVs (cxKW X)) o1).mono fun ws H2 ⟨ρ2, ys, h2, e2, R2, q2, o2⟩ => ?_
    split at o2
    · rename_i hx
      have r := RVs.kw (n := 0) (m := ks.length) (perm := perm) (RVs.nil (K := cxKW X) (ρ := ρ2) (H := H2)) q2
      exact ⟨by rw [r.len]; exact hx, ρ2, h2, _, R2, r, OutF.noX o2⟩
    · exact o2.elim⟩⟩
end
end AB

/-! AB10: the law's end -/
namespace AB
open PySem PySem.Spec
open PyProof.Rows hiding St
open L2
theorem law_sp {K : PySem.W.Frag} {w : World} {H : Hp} {a : Addr} {ns : List Int} {m : FN} (hS : SqL K H a (ns.map V.int)) (h : ∃ h', m [.ro (ns.map PV.int)] [] = .ok (.bl true) h') :
    spM ⟨K, w⟩ 1 m [.ref a] H (fun v _ => v = .bl true) fun _ _ _ => False := by
  obtain ⟨h', e⟩ := h
  have f : FxR ⟨K, w⟩ [] H a (ns.map V.int) := by
    rcases hS with r | c
    · exact .inl ⟨r, by simp⟩
    · exact .inr c
  have q : RVs ⟨K, w⟩ [] H (ns.map PV.int) (ns.map V.int) := .of_ints ns
  refine ⟨rfl, [], [], [.ro (ns.map PV.int)], ⟨List.nodup_nil, rfl, fun n a o e => by simp at e⟩, .cons (.ro _ f q.len q.at_) .nil, ?_⟩
  rw [e]
  exact fun ρ' H' x _ _ r => r.bl_inv
theorem no_exc {P : Program} {w : World} {H : Hp} {s : Shared} {e : Value} {s' : Shared} (z : L2.CX P w [] H s (fun _ _ _ => False) e s') : False := by
  obtain ⟨a, B, H', cls, d, _, _, _, _, _, _, _, q⟩ := z
  exact q
end AB

/-! AB11: running mirrors: equations for simp, loops by invariants, ends of defs -/
namespace AB
open PySem PySem.Spec
open PyProof.Rows hiding St
open L2
/-! ### equations -/
@[simp] theorem aC_eq (v : PV) (σ : ASt) (h : AH) : aC v σ h = .ok v h := rfl
theorem aVar_eq (i : Nat) (σ : ASt) (h : AH) : aVar i σ h = match σ[i]? with
  | some (some v) => .ok v h
  | _ => .stuck := rfl
@[simp] theorem aVar_0 (v : PV) (r : ASt) (h : AH) : aVar 0 (some v :: r) h = .ok v h := rfl
@[simp] theorem aVar_s (i : Nat) (o : Option PV) (r : ASt) (h : AH) : aVar (i + 1) (o :: r) h = aVar i r h := rfl
@[simp] theorem aOp_eq (f : F2) (a b : AE) (σ : ASt) (h : AH) : aOp f a b σ h = (a σ h).bind fun x h1 => (b σ h1).bind fun y h2 => f x y h2 := rfl
@[simp] theorem aUn_eq (f : F1) (a : AE) (σ : ASt) (h : AH) : aUn f a σ h = (a σ h).bind fun x h1 => f x h1 := rfl
@[simp] theorem aB_eq (m : AE) (σ : ASt) (h : AH) : aB m σ h = (m σ h).bind fun x h1 => match x with
  | .bl b => .ok b h1
  | _ => .stuck := rfl
@[simp] theorem aTr_eq (m : AE) (σ : ASt) (h : AH) : aTr m σ h = (m σ h).bind fun x h1 => match truth x h1 with
  | some b => .ok b h1
  | none => .stuck := rfl
@[simp] theorem aChain_eq (f g : F2) (a b c : AE) (σ : ASt) (h : AH) : aChain f g a b c σ h = (a σ h).bind fun x h1 => (b σ h1).bind fun y h2 => (f x y h2).bind fun z h3 => match z with
  | .bl true => (c σ h3).bind fun w h4 => g y w h4
  | .bl false => .ok (.bl false) h3
  | _ => .stuck := rfl
@[simp] theorem aNil_eq (σ : ASt) (h : AH) : aNil σ h = .ok [] h := rfl
@[simp] theorem aCons_eq (a : AE) (r : AL) (σ : ASt) (h : AH) : aCons a r σ h = (a σ h).bind fun x h1 => (r σ h1).bind fun xs h2 => .ok (x :: xs) h2 := rfl
@[simp] theorem aTup_eq (l : AL) (σ : ASt) (h : AH) : aTup l σ h = (l σ h).bind fun xs h1 => if xs.length ≤ sizeLine then .ok (.tup xs) h1 else .stuck := rfl
@[simp] theorem aLst_eq (l : AL) (σ : ASt) (h : AH) : aLst l σ h = (l σ h).bind fun xs h1 => if xs.length ≤ sizeLine then new (.lst xs) h1 else .stuck := rfl
@[simp] theorem new_eq (o : AO) (h : AH) : new o h = .ok (.loc h.length) (h ++ [o]) := rfl
@[simp] theorem put_eq (n : Nat) (o : AO) (v : PV) (h : AH) : put n o v h = .ok v (h.set n o) := rfl
@[simp] theorem aFn_eq (f : FN) (l : AL) (σ : ASt) (h : AH) : aFn f l σ h = (l σ h).bind f := rfl
@[simp] theorem aCall_eq (n : Nat) (m : FN) (l : AL) (σ : ASt) (h : AH) : aCall n m l σ h = (l σ h).bind fun xs h1 => if xs.length = n then m xs h1 else .stuck := rfl
@[simp] theorem aM_eq (ty : PV → AH → Bool) (f : FM) (o : AE) (l : AL) (σ : ASt) (h : AH) : aM ty f o l σ h = (o σ h).bind fun x h1 => if ty x h1 = true then (l σ h1).bind fun xs h2 => f x xs h2 else .stuck := rfl
@[simp] theorem aSl_eq (m : AE) (lo hi : AP) (σ : ASt) (h : AH) : aSl m lo hi σ h = (m σ h).bind fun x h1 => (lo σ h1).bind fun l h2 => (hi σ h2).bind fun u h3 => fSl x l u h3 := rfl
@[simp] theorem aNoP_eq (σ : ASt) (h : AH) : aNoP σ h = .ok none h := rfl
@[simp] theorem aSoP_eq (m : AE) (σ : ASt) (h : AH) : aSoP m σ h = (m σ h).bind fun x h1 => match x with
  | .int i => .ok (some i) h1
  | _ => .stuck := rfl
@[simp] theorem aAnd_eq (a b : AE) (σ : ASt) (h : AH) : aAnd a b σ h = (a σ h).bind fun x h1 => match x with
  | .bl true => b σ h1
  | .bl false => .ok (.bl false) h1
  | _ => .stuck := rfl
@[simp] theorem aOr_eq (a b : AE) (σ : ASt) (h : AH) : aOr a b σ h = (a σ h).bind fun x h1 => match x with
  | .bl true => .ok (.bl true) h1
  | .bl false => b σ h1
  | _ => .stuck := rfl
@[simp] theorem tAnd_eq (a b : AT) (σ : ASt) (h : AH) : tAnd a b σ h = (a σ h).bind fun x h1 => if x = true then b σ h1 else .ok false h1 := rfl
@[simp] theorem tOr_eq (a b : AT) (σ : ASt) (h : AH) : tOr a b σ h = (a σ h).bind fun x h1 => if x = true then .ok true h1 else b σ h1 := rfl
@[simp] theorem tNot_eq (a : AT) (σ : ASt) (h : AH) : tNot a σ h = (a σ h).bind fun x h1 => .ok (!x) h1 := rfl
@[simp] theorem aIf_eq (c : AT) (a b : AE) (σ : ASt) (h : AH) : aIf c a b σ h = (c σ h).bind fun x h1 => if x = true then a σ h1 else b σ h1 := rfl
@[simp] theorem tYes'_eq (σ : ASt) (h : AH) : tYes' σ h = .ok true h := rfl
@[simp] theorem sExpr_eq (m : AE) (σ : ASt) (h : AH) : sExpr m σ h = liftS (m σ h) σ fun _ h1 => .fin .nx σ h1 := rfl
@[simp] theorem sRet_eq (m : AE) (σ : ASt) (h : AH) : sRet m σ h = liftS (m σ h) σ fun x h1 => .fin (.rt x) σ h1 := rfl
@[simp] theorem sRetN_eq (σ : ASt) (h : AH) : sRetN σ h = .fin (.rt .non) σ h := rfl
@[simp] theorem sNext_eq (σ : ASt) (h : AH) : sNext σ h = .fin .nx σ h := rfl
@[simp] theorem sBreak_eq (σ : ASt) (h : AH) : sBreak σ h = .fin .bk σ h := rfl
@[simp] theorem sCont_eq (σ : ASt) (h : AH) : sCont σ h = .fin .ct σ h := rfl
@[simp] theorem sIf_eq (c : AT) (a b : AS) (σ : ASt) (h : AH) : sIf c a b σ h = liftS (c σ h) σ fun x h1 => if x = true then a σ h1 else b σ h1 := rfl
@[simp] theorem sSet_eq (i : Nat) (m : AE) (σ : ASt) (h : AH) : sSet i m σ h = liftS (m σ h) σ fun x h1 => .fin .nx (σ.set i (some x)) h1 := rfl
@[simp] theorem sAsg_eq (m : AE) (g : AG) (σ : ASt) (h : AH) : sAsg m g σ h = liftS (m σ h) σ fun x h1 => match g x σ h1 with
  | some (σ2, h2) => .fin .nx σ2 h2
  | none => .stuck := rfl
@[simp] theorem sPar_eq (i j : Nat) (l : AL) (σ : ASt) (h : AH) : sPar i j l σ h = liftS (l σ h) σ fun xs h1 => match xs with
  | [x, y] => .fin .nx ((σ.set i (some x)).set j (some y)) h1
  | _ => .stuck := rfl
theorem sSeq_eq (a b : AS) (σ : ASt) (h : AH) : sSeq a b σ h = match a σ h with
  | .fin .nx σ1 h1 => b σ1 h1
  | r => r := rfl
theorem sSeq_nx {a b : AS} {σ σ1 : ASt} {h h1 : AH} (e : a σ h = .fin .nx σ1 h1) : sSeq a b σ h = b σ1 h1 := by rw [sSeq_eq, e]
theorem sSeq_rt {a b : AS} {σ σ1 : ASt} {h h1 : AH} {v : PV} (e : a σ h = .fin (.rt v) σ1 h1) : sSeq a b σ h = .fin (.rt v) σ1 h1 := by rw [sSeq_eq, e]
@[simp] theorem gN_eq (i : Nat) (x : PV) (σ : ASt) (h : AH) : gN i x σ h = some (σ.set i (some x), h) := rfl
@[simp] theorem gTup'_eq (n : Nat) (g : AGs) (xs : List PV) (σ : ASt) (h : AH) : gTup' n g (.tup xs) σ h = if xs.length = n then g xs σ h else none := rfl
@[simp] theorem gCons'_eq (g : AG) (r : AGs) (x : PV) (t : List PV) (σ : ASt) (h : AH) : gCons' g r (x :: t) σ h = match g x σ h with
  | some (σ1, h1) => r t σ1 h1
  | none => none := rfl
@[simp] theorem gNil'_eq (σ : ASt) (h : AH) : gNil' [] σ h = some (σ, h) := rfl
theorem size_ok {n : Nat} (h : n ≤ 1000000) : n ≤ sizeLine := by rw [sizeLine_eq]; omega
theorem size_lt {n : Nat} (h : n ≤ 1000000) : n < sizeLine := by rw [sizeLine_eq]; omega
/-! ### sequences by place -/
theorem atI_ofNat {α : Type} {xs : List α} {i : Int} {x : α} (h0 : 0 ≤ i) (e : xs[i.toNat]? = some x) : atI xs i = some x := by
  have := atI_nat e
  rwa [Int.toNat_of_nonneg h0] at this
theorem ixN_of {n : Nat} {i : Int} (h0 : 0 ≤ i) (h1 : i < n) : ixN n i = some i.toNat := by
  unfold ixN
  rw [if_pos h0, if_pos h1]
theorem fIx_tup {xs : List PV} {i : Int} {x : PV} {h : AH} (e : atI xs i = some x) : fIx (.tup xs) (.int i) h = .ok x h := by
  unfold fIx seqOf; simp only [e]
theorem fIx_lst {xs : List PV} {i : Int} {x : PV} {h : AH} (e : atI xs i = some x) : fIx (.lst xs) (.int i) h = .ok x h := by
  unfold fIx seqOf lstOf; simp only [e]
theorem fIx_loc {n : Nat} {xs : List PV} {i : Int} {x : PV} {h : AH} (en : h[n]? = some (.lst xs)) (e : atI xs i = some x) : fIx (.loc n) (.int i) h = .ok x h := by
  unfold fIx seqOf lstOf; simp only [en, e]
theorem lstOf_loc {n : Nat} {xs : List PV} {h : AH} (en : h[n]? = some (.lst xs)) : lstOf (.loc n) h = some xs := by
  unfold lstOf; simp only [en]
theorem seqOf_loc {n : Nat} {xs : List PV} {h : AH} (en : h[n]? = some (.lst xs)) : seqOf (.loc n) h = some xs := by
  unfold seqOf; exact lstOf_loc en
@[simp] theorem seqOf_tup (xs : List PV) (h : AH) : seqOf (.tup xs) h = some xs := rfl
@[simp] theorem seqOf_lst (xs : List PV) (h : AH) : seqOf (.lst xs) h = some xs := rfl
@[simp] theorem seqOf_ro (xs : List PV) (h : AH) : seqOf (.ro xs) h = some xs := rfl
@[simp] theorem lstOf_lst (xs : List PV) (h : AH) : lstOf (.lst xs) h = some xs := rfl
@[simp] theorem lstOf_ro (xs : List PV) (h : AH) : lstOf (.ro xs) h = some xs := rfl
theorem fnLen_seq {v : PV} {xs : List PV} {h : AH} (e : seqOf v h = some xs) : fnLen [v] h = .ok (.int xs.length) h := by
  unfold fnLen
  cases v <;> simp_all [seqOf, lstOf]
/-! ### ends of defs -/
theorem finC_ok {h h1 : AH} {v v' : PV} (hc : ∀ n, n < h.length → h1[n]? = h[n]? ∨ ∃ o, h1[n]? = some o ∧ o.low h.length = true) (hv : frz h.length h1 v = some v') : finC h.length h h1 v = .ok v' (h1.take h.length) := by
  unfold finC
  rw [if_pos (cutB_of hc), hv]
/-- nothing old was touched -/
theorem finC_ext {h g : AH} {v v' : PV} (hv : frz h.length (h ++ g) v = some v') : finC h.length h (h ++ g) v = .ok v' h := by
  rw [finC_ok (fun n hn => .inl (List.getElem?_append_left hn)) hv, List.take_left]
theorem finC_same {h : AH} {v : PV} (hv : v.low h.length = true) : finC h.length h h v = .ok v h := by
  have := finC_ext (h := h) (g := []) (v := v) (v' := v) (by rw [List.append_nil]; exact frz_below hv)
  rwa [List.append_nil] at this
/-- data: no numbers inside -/
def PV.data (v : PV) : Prop := v.low 0 = true
theorem PV.data.low {v : PV} (d : v.data) (k : Nat) : v.low k = true := below_mono (Nat.zero_le k) v d
theorem low_ints (k : Nat) (ns : List Int) : PV.lows k (ns.map PV.int) = true := by
  induction ns with
  | nil => rfl
  | cons n ns ih => simp [PV.lows, PV.low, ih]
theorem low_all {k : Nat} {xs : List PV} (h : ∀ x ∈ xs, x.low k = true) : PV.lows k xs = true := belows_iff.mpr h
theorem aCut_ok {m : AE} {σ : ASt} {h h1 : AH} {v : PV} (e : m σ h = .ok v h1) : aCut m σ h = finC h.length h h1 v := by unfold aCut; rw [e]
theorem mDef_rt {n : Nat} {b : AS} {xs : List PV} {h h1 : AH} {σ : ASt} {v : PV} (e : b (startA n xs) h = .fin (.rt v) σ h1) : mDef false n b xs h = finC h.length h h1 v := by unfold mDef endF; rw [e]; rfl
theorem mDef_nx {n : Nat} {b : AS} {xs : List PV} {h h1 : AH} {σ : ASt} (e : b (startA n xs) h = .fin .nx σ h1) : mDef false n b xs h = finC h.length h h1 .non := by unfold mDef endF; rw [e]; rfl
theorem mDefK_rt {n : Nat} {b : AS} {xs : List PV} {h h1 : AH} {σ : ASt} {v : PV} (e : b (startA n xs) h = .fin (.rt v) σ h1) : mDef true n b xs h = .ok v h1 := by unfold mDef endF; rw [e]; rfl
/-! ### loops -/
/-- a for loop by an invariant of the turn; P: what is wanted of its end -/
theorem forA_rule {a : AI} {g : AG} {b : AS} (xs : List PV) (I : Nat → ASt → AH → Prop) (P : SRes → Prop) (hn : xs.length ≤ a.n)
    (hx : ∀ i σ h, i ≤ xs.length → I i σ h → a.nxt i h = some xs[i]?)
    (step : ∀ i x σ h, xs[i]? = some x → I i σ h → ∃ σ1 h1, g x σ h = some (σ1, h1) ∧
      ((∃ σ2 h2, (b σ1 h1 = .fin .nx σ2 h2 ∨ b σ1 h1 = .fin .ct σ2 h2) ∧ I (i + 1) σ2 h2) ∨ (∃ σ2 h2, b σ1 h1 = .fin .bk σ2 h2 ∧ P (.fin .nx σ2 h2)) ∨ (∃ v σ2 h2, b σ1 h1 = .fin (.rt v) σ2 h2 ∧ P (.fin (.rt v) σ2 h2))))
    (fin : ∀ σ h, I xs.length σ h → P (.fin .nx σ h)) {σ : ASt} {h : AH} (h0 : I 0 σ h) : P (forA a g b a.n 0 σ h) := by
  have key : ∀ (k n i : Nat) (σ : ASt) (h : AH), k = xs.length - i → i ≤ xs.length → xs.length ≤ n + i → I i σ h → P (forA a g b n i σ h) := by
    intro k
    induction k with
    | zero =>
      intro n i σ h hk hi hni hI
      have e : i = xs.length := by omega
      have q := hx i σ h hi hI
      subst e
      unfold forA
      rw [q, List.getElem?_eq_none (Nat.le_refl _)]
      exact fin σ h hI
    | succ k ih =>
      intro n i σ h hk hi hni hI
      have hlt : i < xs.length := by omega
      have q := hx i σ h hi hI
      have ex : xs[i]? = some xs[i] := by simp [hlt]
      obtain ⟨σ1, h1, eg, st⟩ := step i xs[i] σ h ex hI
      unfold forA
      rw [q, ex]
      cases n with
      | zero => omega
      | succ n =>
        simp only [eg]
        rcases st with ⟨σ2, h2, eb | eb, hI2⟩ | ⟨σ2, h2, eb, hP⟩ | ⟨v, σ2, h2, eb, hP⟩
        · rw [eb]; exact ih n (i + 1) σ2 h2 (by omega) (by omega) (by omega) hI2
        · rw [eb]; exact ih n (i + 1) σ2 h2 (by omega) (by omega) (by omega) hI2
        · rw [eb]; exact hP
        · rw [eb]; exact hP
  exact key xs.length a.n 0 σ h rfl (Nat.zero_le _) hn h0
/-- over values; the body goes on each time -/
theorem for_vals {g : AG} {b : AS} (xs : List PV) (I : Nat → ASt → AH → Prop) {σ : ASt} {h : AH} (h0 : I 0 σ h)
    (step : ∀ i x σ h, xs[i]? = some x → I i σ h → ∃ σ1 h1 σ2 h2, g x σ h = some (σ1, h1) ∧ b σ1 h1 = .fin .nx σ2 h2 ∧ I (i + 1) σ2 h2) :
    ∃ σ' h', forA (itVals xs) g b xs.length 0 σ h = .fin .nx σ' h' ∧ I xs.length σ' h' :=
  forA_rule (a := itVals xs) xs I (fun r => ∃ σ' h', r = .fin .nx σ' h' ∧ I xs.length σ' h') (Nat.le_refl _) (fun _ _ _ _ _ => rfl)
    (fun i x σ h ex hI => let ⟨σ1, h1, σ2, h2, e1, e2, e3⟩ := step i x σ h ex hI; ⟨σ1, h1, e1, .inl ⟨σ2, h2, .inl e2, e3⟩⟩) (fun σ h hI => ⟨σ, h, rfl, hI⟩) h0
/-- over a live list that the body leaves -/
theorem for_live {g : AG} {b : AS} (n : Nat) (xs : List PV) (I : Nat → ASt → AH → Prop) {σ : ASt} {h : AH} (h0 : I 0 σ h) (hl : ∀ i σ h, I i σ h → h[n]? = some (.lst xs))
    (step : ∀ i x σ h, xs[i]? = some x → I i σ h → ∃ σ1 h1 σ2 h2, g x σ h = some (σ1, h1) ∧ b σ1 h1 = .fin .nx σ2 h2 ∧ I (i + 1) σ2 h2) :
    ∃ σ' h', forA (itLive (.loc n) xs.length) g b xs.length 0 σ h = .fin .nx σ' h' ∧ I xs.length σ' h' :=
  forA_rule (a := itLive (.loc n) xs.length) xs I (fun r => ∃ σ' h', r = .fin .nx σ' h' ∧ I xs.length σ' h') (Nat.le_refl _) (fun i σ h _ hI => by
      show (lstOf (.loc n) h).map (fun xs => xs[i]?) = _
      rw [lstOf_loc (hl i σ h hI)]; rfl)
    (fun i x σ h ex hI => let ⟨σ1, h1, σ2, h2, e1, e2, e3⟩ := step i x σ h ex hI; ⟨σ1, h1, e1, .inl ⟨σ2, h2, .inl e2, e3⟩⟩) (fun σ h hI => ⟨σ, h, rfl, hI⟩) h0
/-- over range(n) from lo -/
theorem for_rg {g : AG} {b : AS} (lo : Int) (n : Nat) (I : Nat → ASt → AH → Prop) {σ : ASt} {h : AH} (h0 : I 0 σ h)
    (step : ∀ i σ h, i < n → I i σ h → ∃ σ1 h1 σ2 h2, g (.int (lo + (i : Nat))) σ h = some (σ1, h1) ∧ b σ1 h1 = .fin .nx σ2 h2 ∧ I (i + 1) σ2 h2) :
    ∃ σ' h', forA (itRg lo n) g b n 0 σ h = .fin .nx σ' h' ∧ I n σ' h' := by
  have ln : ((List.range n).map fun i => PV.int (lo + (i : Nat))).length = n := by simp
  have q := forA_rule (a := itRg lo n) (g := g) (b := b) ((List.range n).map fun i => PV.int (lo + (i : Nat))) I (fun r => ∃ σ' h', r = .fin .nx σ' h' ∧ I n σ' h') (by rw [ln]; exact Nat.le_refl _) (fun i σ h hi _ => by
      show (if i < n then some (some (PV.int (lo + i))) else some none) = _
      by_cases c : i < n
      · rw [if_pos c]; simp [c]
      · rw [if_neg c]; simp [c])
    (fun i x σ h ex hI => by
      have hi : i < n := by have := (List.getElem?_eq_some_iff.mp ex).1; rwa [ln] at this
      obtain ⟨σ1, h1, σ2, h2, e1, e2, e3⟩ := step i σ h hi hI
      have : x = .int (lo + (i : Nat)) := by simp [hi] at ex; exact ex.symm
      subst this
      exact ⟨σ1, h1, e1, .inl ⟨σ2, h2, .inl e2, e3⟩⟩) (fun σ h hI => ⟨σ, h, rfl, by rw [ln] at hI; exact hI⟩) h0
  exact q
/-- while, by an invariant and a measure; P: what is wanted of the end -/
theorem while_rule {c : AT} {b : AS} (I : ASt → AH → Prop) (μ : ASt → AH → Nat) (P : SRes → Prop)
    (step : ∀ σ h, I σ h → (∃ h1, c σ h = .ok false h1 ∧ P (.fin .nx σ h1)) ∨ (∃ h1, c σ h = .ok true h1 ∧
      ((∃ σ2 h2, (b σ h1 = .fin .nx σ2 h2 ∨ b σ h1 = .fin .ct σ2 h2) ∧ I σ2 h2 ∧ μ σ2 h2 < μ σ h) ∨ (∃ σ2 h2, b σ h1 = .fin .bk σ2 h2 ∧ P (.fin .nx σ2 h2)) ∨ (∃ v σ2 h2, b σ h1 = .fin (.rt v) σ2 h2 ∧ P (.fin (.rt v) σ2 h2))))) {σ : ASt} {h : AH} (h0 : I σ h) : P (sWhile c b σ h) := by
  have key : ∀ (k : Nat) (σ : ASt) (h : AH), μ σ h ≤ k → I σ h → P (sWhile c b σ h) := by
    intro k
    induction k with
    | zero =>
      intro σ h hk hI
      rw [sWhile_eq]
      rcases step σ h hI with ⟨h1, e, p⟩ | ⟨h1, e, st⟩
      · rw [e]; exact p
      · rw [e, liftS_ok, if_pos rfl]
        rcases st with ⟨σ2, h2, _, _, hm⟩ | ⟨σ2, h2, eb, hP⟩ | ⟨v, σ2, h2, eb, hP⟩
        · omega
        · rw [eb]; exact hP
        · rw [eb]; exact hP
    | succ k ih =>
      intro σ h hk hI
      rw [sWhile_eq]
      rcases step σ h hI with ⟨h1, e, p⟩ | ⟨h1, e, st⟩
      · rw [e]; exact p
      · rw [e, liftS_ok, if_pos rfl]
        rcases st with ⟨σ2, h2, eb | eb, hI2, hm⟩ | ⟨σ2, h2, eb, hP⟩ | ⟨v, σ2, h2, eb, hP⟩
        · rw [eb]; exact ih σ2 h2 (by omega) hI2
        · rw [eb]; exact ih σ2 h2 (by omega) hI2
        · rw [eb]; exact hP
        · rw [eb]; exact hP
  exact key _ σ h (Nat.le_refl _) h0
/-! ### comprehensions -/
/-- over what a gives, item by item (xs): f tells for each item what is added (none: nothing); the heap stays -/
theorem lcA_pure {a : AI} {vs : List Nat} {g : AG} {t : AT} {e : AE} {σ : ASt} {h : AH} (xs : List PV) (f : Nat → PV → Option PV) (hn : xs.length ≤ a.n) (hz : xs.length < 1000000)
    (hx : ∀ i (acc : List PV), i ≤ xs.length → a.nxt i (h ++ [.lst acc]) = some xs[i]?)
    (step : ∀ i x (acc : List PV), xs[i]? = some x → ∃ σ1, g x (wipeA σ vs) (h ++ [.lst acc]) = some (σ1, h ++ [.lst acc]) ∧
      ((t σ1 (h ++ [.lst acc]) = .ok false (h ++ [.lst acc]) ∧ f i x = none) ∨ ∃ y, t σ1 (h ++ [.lst acc]) = .ok true (h ++ [.lst acc]) ∧ e σ1 (h ++ [.lst acc]) = .ok y (h ++ [.lst acc]) ∧ f i x = some y)) :
    lcA a vs g t e σ h.length a.n 0 (h ++ [.lst []]) = .ok (.loc h.length) (h ++ [.lst ((xs.zipIdx).filterMap fun p => f p.2 p.1)]) := by
  have key : ∀ (k n i : Nat) (acc : List PV), k = xs.length - i → i ≤ xs.length → xs.length ≤ n + i → acc.length ≤ i →
      lcA a vs g t e σ h.length n i (h ++ [.lst acc]) = .ok (.loc h.length) (h ++ [.lst (acc ++ ((xs.drop i).zipIdx i).filterMap fun p => f p.2 p.1)]) := by
    intro k
    induction k with
    | zero =>
      intro n i acc hk hi hni _
      have ei : i = xs.length := by omega
      subst ei
      unfold lcA
      rw [hx _ acc (Nat.le_refl _), List.getElem?_eq_none (Nat.le_refl _)]
      simp
    | succ k ih =>
      intro n i acc hk hi hni hal
      have hlt : i < xs.length := by omega
      have ex : xs[i]? = some xs[i] := by simp [hlt]
      obtain ⟨σ1, eg, st⟩ := step i xs[i] acc ex
      have ed : xs.drop i = xs[i] :: xs.drop (i + 1) := List.drop_eq_getElem_cons hlt
      unfold lcA
      rw [hx i acc hi, ex]
      cases n with
      | zero => omega
      | succ n =>
        simp only [eg]
        rcases st with ⟨et, ef⟩ | ⟨y, et, ee, ef⟩
        · rw [et]
          dsimp only
          rw [ih n (i + 1) acc (by omega) (by omega) (by omega) (by omega), ed, List.zipIdx_cons, List.filterMap_cons]
          simp only [ef]
        · rw [et]
          dsimp only
          rw [ee]
          have en : (h ++ [AO.lst acc])[h.length]? = some (.lst acc) := by simp
          simp only [en]
          rw [if_pos (size_lt (by omega))]
          have es : (h ++ [AO.lst acc]).set h.length (.lst (acc ++ [y])) = h ++ [.lst (acc ++ [y])] := by simp
          rw [es, ih n (i + 1) (acc ++ [y]) (by omega) (by omega) (by omega) (by simp; omega), ed, List.zipIdx_cons, List.filterMap_cons]
          simp only [ef]
          rw [List.append_assoc]; rfl
  have q := key xs.length a.n 0 [] rfl (Nat.zero_le _) (by omega) (Nat.le_refl _)
  rw [List.drop_zero, List.nil_append] at q
  exact q
end AB

/-! AB12: data of any depth: ==, in -/
namespace AB
open PySem PySem.Spec
open PyProof.Rows hiding St
open L2
mutual
def dat : PV → Option PyData
  | .non => some .none
  | .bl b => some (.bool b)
  | .int i => some (.int i)
  | .str x => some (.str x)
  | .tup xs => (dats xs).map .tuple
  | .lst xs => (dats xs).map .list
  | .ro xs => (dats xs).map .list
  | _ => none
termination_by structural x => x
def dats : List PV → Option (List PyData)
  | [] => some []
  | v :: r => match dat v, dats r with
    | some d, some ds => some (d :: ds)
    | _, _ => none
termination_by structural x => x
end
section
variable {K : KW}
mutual
theorem dat_dp {ρ : List Addr} {H : Hp} : ∀ {v : PV} {x : V} {d : PyData}, dat v = some d → RV K ρ H v x → Dp K.fr H x d
  | .non, x, d, e, r => by cases e; rw [r.non_inv]; exact .non
  | .bl b, x, d, e, r => by cases e; rw [r.bl_inv]; exact .bl b
  | .int i, x, d, e, r => by cases e; rw [r.int_inv]; exact .int i
  | .str s, x, d, e, r => by cases e; rw [r.str_inv]; exact .str s
  | .tup xs, x, d, e, r => by
    rw [dat] at e
    obtain ⟨ds, e1, rfl⟩ := Option.map_eq_some_iff.mp e
    obtain ⟨p, vs, rfl, f, q⟩ := r.tup_inv
    exact .tup f.sq (dats_dp e1 q)
  | .lst xs, x, d, e, r => by
    rw [dat] at e
    obtain ⟨ds, e1, rfl⟩ := Option.map_eq_some_iff.mp e
    obtain ⟨p, vs, rfl, f, q⟩ := r.lst_inv
    exact .lst f.sq (dats_dp e1 q)
  | .ro xs, x, d, e, r => by
    rw [dat] at e
    obtain ⟨ds, e1, rfl⟩ := Option.map_eq_some_iff.mp e
    obtain ⟨p, vs, rfl, f, q⟩ := r.ro_inv
    exact .lst f.sq (dats_dp e1 q)
  | .loc n, x, d, e, r => by cases e
  | .raw v, x, d, e, r => by cases e
theorem dats_dp {ρ : List Addr} {H : Hp} : ∀ {xs : List PV} {vs : List V} {ds : List PyData}, dats xs = some ds → RVs K ρ H xs vs → DpAll K.fr H vs ds
  | [], vs, ds, e, r => by cases e; rw [r.nil_inv]; exact .nil
  | x :: xs, vs, ds, e, r => by
    rw [dats] at e
    split at e
    · rename_i d ds' e1 e2
      cases e
      obtain ⟨v, vs', rfl, q, s⟩ := r.cons_inv
      exact .cons (dat_dp e1 q) (dats_dp e2 s)
    · cases e
end
end
section
variable {X : Cx}
def rInDT (K : PySem.W.Frag) : R2 := fun x y H Q => ∃ d ds, Dp K H x d ∧ (Dp K H y (.list ds) ∨ Dp K H y (.tuple ds)) ∧ SeqAt.shaped d = true ∧ SeqAt.shaped (.list ds) = true ∧ SeqAt.shaped (.tuple ds) = true ∧ Q (.bl (ds.any fun z => PyData.eqv z d)) H
theorem op_inDT (hu : X.A.units + 65 < cLine) : OpR X (compareOp .In) (rInDT X.K) := by
  intro pins s σ H x y v u Q I rx ry h
  obtain ⟨d, ds, hd, he, sd, se, st, q⟩ := h
  obtain ⟨as, r1⟩ := Dp.reads I d x v hd rx
  rcases he with he | he
  · obtain ⟨bs, r2⟩ := Dp.reads I (.list ds) y u he ry
    exact SeqAt.in_list_reads r2 r1 (SeqAt.canLay_of_shaped se) (SeqAt.canLay_of_shaped sd) (room_in_shaped sd hu) ⟨.bl _, H, I, rfl, q⟩
  · obtain ⟨bs, r2⟩ := Dp.reads I (.tuple ds) y u he ry
    exact SeqAt.in_tuple_reads r2 r1 (SeqAt.canLay_of_shaped st) (SeqAt.canLay_of_shaped sd) (room_in_shaped sd hu) ⟨.bl _, H, I, rfl, q⟩
end
/-- in, of data of any depth -/
def fInD : F2 := fun v u h => match dat v, (seqOf u h).bind dats with
  | some d, some ds => if SeqAt.shaped d = true ∧ SeqAt.shaped (.list ds) = true ∧ SeqAt.shaped (.tuple ds) = true then .ok (.bl (ds.any fun z => PyData.eqv z d)) h else .stuck
  | _, _ => .stuck
section
variable {X : Cx}
theorem seq_dp {K : KW} {ρ : List Addr} {h : AH} {H : Hp} {u : PV} {y : V} {ds : List PyData} (R : Rep K ρ h H) (r : RV K ρ H u y) (e : (seqOf u h).bind dats = some ds) : Dp K.fr H y (.list ds) ∨ Dp K.fr H y (.tuple ds) := by
  obtain ⟨xs, e1, e2⟩ := Option.bind_eq_some_iff.mp e
  obtain ⟨p, vs, rfl, s, q⟩ := seq_of R r e1
  rcases s with s | s
  · exact .inl (.lst s (dats_dp e2 q))
  · exact .inr (.tup s (dats_dp e2 q))
theorem j_inD (hu : X.A.units + 65 < cLine) : JOp X (compareOp .In) fInD := jop (op_inDT hu) fun ρ h H τ W x y v u Q R r1 r2 o => by
  unfold fInD at o
  split at o
  · rename_i d ds e1 e2
    split at o
    · rename_i c
      exact ⟨d, ds, dat_dp e1 r1, seq_dp R r2 e2, c.1, c.2.1, c.2.2, Out.done o R (.bl _)⟩
    · exact o.elim
  · exact o.elim
end
def fNinD : F2 := fun v u h => (fInD v u h).bind fun r h1 => match r with
  | .bl b => .ok (.bl (!b)) h1
  | _ => .stuck
def fEqD : F2 := fun v u h => match dat v, dat u with
  | some d, some e => if SeqAt.shaped d = true ∧ SeqAt.shaped e = true then .ok (.bl (PyData.eqv d e)) h else .stuck
  | _, _ => .stuck
def fNeD : F2 := fun v u h => match dat v, dat u with
  | some d, some e => if SeqAt.shaped d = true ∧ SeqAt.shaped e = true then .ok (.bl (!PyData.eqv d e)) h else .stuck
  | _, _ => .stuck
section
variable {X : Cx}
theorem j_eqD (hu : X.A.units + 65 < cLine) : JOp X (compareOp .Eq) fEqD := jop (op_eqD (by omega)) fun ρ h H τ W x y v u Q R r1 r2 o => by
  unfold fEqD at o
  split at o
  · rename_i d e e1 e2
    split at o
    · rename_i c
      exact ⟨d, e, dat_dp e1 r1, dat_dp e2 r2, c.1, c.2, Out.done o R (.bl _)⟩
    · exact o.elim
  · exact o.elim
theorem j_neD (hu : X.A.units + 65 < cLine) : JOp X (compareOp .NotEq) fNeD := jop (op_neD (by omega)) fun ρ h H τ W x y v u Q R r1 r2 o => by
  unfold fNeD at o
  split at o
  · rename_i d e e1 e2
    split at o
    · rename_i c
      exact ⟨d, e, dat_dp e1 r1, dat_dp e2 r2, c.1, c.2, Out.done o R (.bl _)⟩
    · exact o.elim
  · exact o.elim
end
end AB

/-! MT: what the operators and functions of mirrors give at ints and texts -/
namespace AB
open PySem PySem.Spec
open PyProof.Rows hiding St
open L2
@[simp] theorem liftS_ok' {α : Type} (a : α) (h : AH) (σ : ASt) (f : α → AH → SRes) : liftS (.ok a h) σ f = f a h := rfl
@[simp] theorem fSub_i (i j : Int) (h : AH) : fSub (.int i) (.int j) h = .ok (.int (i - j)) h := rfl
@[simp] theorem fAdd_i (i j : Int) (h : AH) : fAdd (.int i) (.int j) h = .ok (.int (i + j)) h := rfl
@[simp] theorem fLt_i (i j : Int) (h : AH) : fLt (.int i) (.int j) h = .ok (.bl (decide (i < j))) h := rfl
@[simp] theorem fLe_i (i j : Int) (h : AH) : fLe (.int i) (.int j) h = .ok (.bl (decide (i ≤ j))) h := rfl
@[simp] theorem fGt_i (i j : Int) (h : AH) : fGt (.int i) (.int j) h = .ok (.bl (decide (j < i))) h := rfl
@[simp] theorem fGe_i (i j : Int) (h : AH) : fGe (.int i) (.int j) h = .ok (.bl (decide (j ≤ i))) h := rfl
theorem fMod_i {i j : Int} (hj : 0 < j) (h : AH) : fMod (.int i) (.int j) h = .ok (.int (i % j)) h := by
  show (if bPos i j = true then _ else _) = _
  rw [if_pos (by simp [bPos, hj])]
theorem fFdiv_i {i j : Int} (hj : 0 < j) (hz : j < 1073741824) (h : AH) : fFdiv (.int i) (.int j) h = .ok (.int (i / j)) h := by
  show (if bDiv i j = true then _ else _) = _
  rw [if_pos (by simp [bDiv, hj, hz])]
theorem fMul_i {i j : Int} (hj : -(2 ^ 64) < j) (hz : j < 2 ^ 64) (h : AH) : fMul (.int i) (.int j) h = .ok (.int (i * j)) h := by
  show (if bMul i j = true then _ else _) = _
  rw [if_pos (by simp only [bMul, Bool.or_eq_true, Bool.and_eq_true, decide_eq_true_eq]; exact .inr ⟨hj, hz⟩)]
@[simp] theorem fnInt_i (i : Int) (h : AH) : fnInt [.int i] h = .ok (.int i) h := rfl
@[simp] theorem fnInt_b (k : Bool) (h : AH) : fnInt [.bl k] h = .ok (.int (if k then 1 else 0)) h := rfl
@[simp] theorem fEq_i (i j : Int) (h : AH) : fEq (.int i) (.int j) h = .ok (.bl (decide (i = j))) h := by
  have q : scal (V.int i) (V.int j) = true := rfl
  simp [fEq, flat, q]
@[simp] theorem fNe_i (i j : Int) (h : AH) : fNe (.int i) (.int j) h = .ok (.bl (!decide (i = j))) h := by
  have q : scal (V.int i) (V.int j) = true := rfl
  simp [fNe, flat, q]
@[simp] theorem fEq_s (i j : Str) (h : AH) : fEq (.str i) (.str j) h = .ok (.bl (decide (i = j))) h := by
  have q : scal (V.str i) (V.str j) = true := rfl
  simp [fEq, flat, q]
@[simp] theorem fNe_s (i j : Str) (h : AH) : fNe (.str i) (.str j) h = .ok (.bl (!decide (i = j))) h := by
  have q : scal (V.str i) (V.str j) = true := rfl
  simp [fNe, flat, q]
@[simp] theorem fEq_b (i j : Bool) (h : AH) : fEq (.bl i) (.bl j) h = .ok (.bl (decide (i = j))) h := by
  have q : scal (V.bl i) (V.bl j) = true := rfl
  simp [fEq, flat, q]
@[simp] theorem fNe_b (i j : Bool) (h : AH) : fNe (.bl i) (.bl j) h = .ok (.bl (!decide (i = j))) h := by
  have q : scal (V.bl i) (V.bl j) = true := rfl
  simp [fNe, flat, q]
theorem flats_ints : ∀ ns : List Int, flats (ns.map PV.int) = some (ns.map V.int)
  | [] => rfl
  | n :: ns => by rw [List.map_cons, flats, flats_ints ns]; rfl
theorem inV_ints (i : Int) (ns : List Int) : inV (.int i) (ns.map V.int) = decide (i ∈ ns) := by
  unfold inV
  induction ns with
  | nil => simp
  | cons n ns ih =>
    have q : eqV (.int n) (.int i) = decide (i = n) := by rw [show eqV (V.int n) (V.int i) = decide (n = i) from rfl]; exact decide_eq_decide.mpr eq_comm
    rw [List.map_cons, List.any_cons, ih, q]
    simp
theorem fIn_i {i : Int} {u : PV} {ns : List Int} {h : AH} (e : seqOf u h = some (ns.map PV.int)) : fIn (.int i) u h = .ok (.bl (decide (i ∈ ns))) h := by
  unfold fIn
  rw [e]
  show (match flats (ns.map PV.int) with | some zs => Res.ok (PV.bl (inV (.int i) zs)) h | none => .stuck) = _
  rw [flats_ints]
  simp only [inV_ints]
theorem fNin_i {i : Int} {u : PV} {ns : List Int} {h : AH} (e : seqOf u h = some (ns.map PV.int)) : fNin (.int i) u h = .ok (.bl (!decide (i ∈ ns))) h := by
  unfold fNin
  rw [e]
  show (match flats (ns.map PV.int) with | some zs => Res.ok (PV.bl (!inV (.int i) zs)) h | none => .stuck) = _
  rw [flats_ints]
  simp only [inV_ints]
theorem fnSum_i {u : PV} {ns : List Int} {h : AH} (e : lstOf u h = some (ns.map PV.int)) : fnSum [u] h = .ok (.int ns.sum) h := by
  unfold fnSum
  simp only [e, Option.bind_some, intsOf_map]
theorem fnTuple_s {u : PV} {xs : List PV} {h : AH} (e : seqOf u h = some xs) : fnTuple [u] h = .ok (.tup xs) h := by
  unfold fnTuple
  simp only [e]
theorem mAppend_ok {n : Nat} {xs : List PV} {y : PV} {h : AH} (e : h[n]? = some (.lst xs)) (hz : xs.length < 1000000) : mAppend (.loc n) [y] h = .ok .non (h.set n (.lst (xs ++ [y]))) := by
  unfold mAppend
  simp only [e]
  rw [if_pos (size_lt (by omega))]; rfl
theorem fAdd_s {x y : Str} {h : AH} (hz : x.length + y.length ≤ 1000000) : fAdd (.str x) (.str y) h = .ok (.str (x ++ y)) h := by
  show (if x.length + y.length ≤ sizeLine then _ else _) = _
  rw [if_pos (size_ok hz)]
theorem fAdd_t {x y : List PV} {h : AH} (hz : x.length + y.length ≤ 1000000) : fAdd (.tup x) (.tup y) h = .ok (.tup (x ++ y)) h := by
  show (if x.length + y.length ≤ sizeLine then _ else _) = _
  rw [if_pos (size_ok hz)]
theorem set_app {α : Type} {h g : List α} {n : Nat} {o : α} (hn : n < h.length) : (h ++ g).set n o = h.set n o ++ g := List.set_append_left _ _ hn
theorem isL_loc {n : Nat} {xs : List PV} {h : AH} (e : h[n]? = some (.lst xs)) : isL (.loc n) h = true := by
  unfold isL; rw [lstOf_loc e]; rfl
theorem aItS_tup (m : AE) (σ : ASt) (h h1 : AH) (xs : List PV) (e : m σ h = .ok (.tup xs) h1) : aItS m σ h = .ok (itVals xs) h1 := by
  unfold aItS; rw [e]; rfl
theorem aItS_lst (m : AE) (σ : ASt) (h h1 : AH) (xs : List PV) (e : m σ h = .ok (.lst xs) h1) : ∃ a, aItS m σ h = .ok a h1 ∧ a.n = xs.length ∧ ∀ i g, a.nxt i g = some xs[i]? := by
  unfold aItS; rw [e]
  exact ⟨_, rfl, rfl, fun _ _ => rfl⟩
end AB

/-! MG: places joined by lines; homes; the places reached -/
namespace MG
inductive Cn (E : List (Nat × Nat)) : Nat → Nat → Prop
  | rf (a : Nat) : Cn E a a
  | fw {a b c : Nat} : Cn E a b → (b, c) ∈ E → Cn E a c
  | bw {a b c : Nat} : Cn E a b → (c, b) ∈ E → Cn E a c
theorem Cn.tr {E : List (Nat × Nat)} {a b c : Nat} (x : Cn E a b) (y : Cn E b c) : Cn E a c := by
  induction y with
  | rf => exact x
  | fw _ m ih => exact .fw ih m
  | bw _ m ih => exact .bw ih m
theorem Cn.sm {E : List (Nat × Nat)} {a b : Nat} (x : Cn E a b) : Cn E b a := by
  induction x with
  | rf => exact .rf _
  | fw _ m ih => exact (Cn.bw (.rf _) m).tr ih
  | bw _ m ih => exact (Cn.fw (.rf _) m).tr ih
theorem Cn.mono {E F : List (Nat × Nat)} (s : ∀ e ∈ E, e ∈ F) {a b : Nat} (x : Cn E a b) : Cn F a b := by
  induction x with
  | rf => exact .rf _
  | fw _ m ih => exact .fw ih (s _ m)
  | bw _ m ih => exact .bw ih (s _ m)
/-- what agrees along each line agrees along a way -/
theorem Cn.agree {E : List (Nat × Nat)} {α : Type} (f : Nat → α) (s : ∀ e ∈ E, f e.1 = f e.2) {a b : Nat} (x : Cn E a b) : f a = f b := by
  induction x with
  | rf => rfl
  | fw _ m ih => exact ih.trans (s _ m)
  | bw _ m ih => exact ih.trans (s _ m).symm
def mergeF (hs : List Nat) (a b : Nat) : List Nat := if hs.getD a 0 = hs.getD b 0 then hs else hs.map fun s => if s = hs.getD b 0 then hs.getD a 0 else s
def homesF (n : Nat) (E : List (Nat × Nat)) : List Nat := E.foldl (fun hs e => mergeF hs e.1 e.2) (List.range n)
theorem mergeF_len (hs : List Nat) (a b : Nat) : (mergeF hs a b).length = hs.length := by unfold mergeF; split <;> simp
theorem mergeF_get {hs : List Nat} {a b p : Nat} (hp : p < hs.length) (ne : hs.getD a 0 ≠ hs.getD b 0) : (mergeF hs a b).getD p 0 = if hs.getD p 0 = hs.getD b 0 then hs.getD a 0 else hs.getD p 0 := by
  unfold mergeF
  rw [if_neg ne]
  simp only [List.getD_eq_getElem?_getD, List.getElem?_map]
  rw [List.getElem?_eq_getElem hp]
  rfl
structure HInv (n : Nat) (E : List (Nat × Nat)) (hs : List Nat) : Prop where
  len : hs.length = n
  one : ∀ e ∈ E, hs.getD e.1 0 = hs.getD e.2 0
  two : ∀ a b, a < n → b < n → hs.getD a 0 = hs.getD b 0 → Cn E a b
theorem HInv.step {n : Nat} {E : List (Nat × Nat)} {hs : List Nat} (i : HInv n E hs) (lt : ∀ e ∈ E, e.1 < n ∧ e.2 < n) {a b : Nat} (ha : a < n) (hb : b < n) : HInv n (E ++ [(a, b)]) (mergeF hs a b) := by
  by_cases c : hs.getD a 0 = hs.getD b 0
  · have e : mergeF hs a b = hs := by unfold mergeF; rw [if_pos c]
    rw [e]
    refine ⟨i.len, fun e he => ?_, fun p q hp hq h => (i.two p q hp hq h).mono fun e he => List.mem_append_left _ he⟩
    rcases List.mem_append.mp he with he | he
    · exact i.one e he
    · rw [List.mem_singleton] at he; subst he; exact c
  · have g : ∀ p, p < n → (mergeF hs a b).getD p 0 = if hs.getD p 0 = hs.getD b 0 then hs.getD a 0 else hs.getD p 0 := fun p hp => mergeF_get (by rw [i.len]; exact hp) c
    refine ⟨by rw [mergeF_len, i.len], fun e he => ?_, fun p q hp hq h => ?_⟩
    · rcases List.mem_append.mp he with he | he
      · rw [g _ (lt e he).1, g _ (lt e he).2, i.one e he]
      · rw [List.mem_singleton] at he; subst he
        rw [g a ha, g b hb, if_pos rfl]
        split <;> rfl
    · rw [g p hp, g q hq] at h
      have up : ∀ {x y}, Cn E x y → Cn (E ++ [(a, b)]) x y := fun k => k.mono fun e he => List.mem_append_left _ he
      have ab : Cn (E ++ [(a, b)]) a b := .fw (.rf _) (List.mem_append_right _ (List.mem_singleton.mpr rfl))
      split at h
      · rename_i h1
        split at h
        · rename_i h2; exact up (i.two p q hp hq (h1.trans h2.symm))
        · exact (up (i.two p b hp hb h1)).tr (ab.sm.tr (up (i.two a q ha hq h)))
      · split at h
        · rename_i h2; exact (up (i.two p a hp ha h)).tr (ab.tr (up (i.two b q hb hq h2.symm)))
        · exact up (i.two p q hp hq h)
theorem HInv.fold {n : Nat} : ∀ (F E : List (Nat × Nat)) (hs : List Nat), HInv n E hs → (∀ e ∈ E ++ F, e.1 < n ∧ e.2 < n) → HInv n (E ++ F) (F.foldl (fun hs e => mergeF hs e.1 e.2) hs)
  | [], E, hs, i, _ => by rw [List.append_nil]; exact i
  | (a, b) :: F, E, hs, i, lt => by
    have q := HInv.fold F (E ++ [(a, b)]) (mergeF hs a b) (i.step (fun e he => lt e (List.mem_append_left _ he)) (lt (a, b) (by simp)).1 (lt (a, b) (by simp)).2) (by rw [List.append_assoc]; exact lt)
    rw [List.append_assoc] at q
    exact q
theorem homesF_inv {n : Nat} {E : List (Nat × Nat)} (lt : ∀ e ∈ E, e.1 < n ∧ e.2 < n) : HInv n E (homesF n E) := by
  have := HInv.fold (n := n) E [] (List.range n) ⟨by simp, by simp, fun a b ha hb h => by
    have e1 : (List.range n).getD a 0 = a := by simp [ha]
    have e2 : (List.range n).getD b 0 = b := by simp [hb]
    rw [e1, e2] at h
    subst h; exact .rf _⟩ (by simpa using lt)
  rw [List.nil_append] at this
  exact this
/-- reached from s: what is closed and joined -/
structure Rch (n : Nat) (E : List (Nat × Nat)) (s : Nat) (t : List Nat) : Prop where
  st : s ∈ t
  cl : ∀ e ∈ E, (e.1 ∈ t → e.2 ∈ t) ∧ (e.2 ∈ t → e.1 ∈ t)
  jn : ∀ p ∈ t, Cn E s p
theorem Rch.iff {n : Nat} {E : List (Nat × Nat)} {s : Nat} {t : List Nat} (r : Rch n E s t) (p : Nat) : p ∈ t ↔ Cn E s p := by
  refine ⟨r.jn p, fun h => ?_⟩
  induction h with
  | rf => exact r.st
  | fw _ m ih => exact (r.cl _ m).1 ih
  | bw _ m ih => exact (r.cl _ m).2 ih
theorem home_near {n : Nat} {E : List (Nat × Nat)} (lt : ∀ e ∈ E, e.1 < n ∧ e.2 < n) {t : List Nat} (r : Rch n E 0 t) {p : Nat} (hp : p < n) : (homesF n E).getD p 0 = (homesF n E).getD 0 0 ↔ p ∈ t := by
  have i := homesF_inv lt
  rw [r.iff]
  constructor
  · intro h; exact (i.two p 0 hp (by omega) h).sm
  · intro h; exact (h.agree (fun q => (homesF n E).getD q 0) i.one).symm
end MG

/-! MP: the tape -/
namespace AB
open PySem PySem.Spec
open PyProof.Rows hiding St
open L2
theorem gSubL_ok {ao ai : AE} {x : PV} {σ : ASt} {h : AH} {n : Nat} {k : Int} {xs : List PV} (e1 : ao σ h = .ok (.loc n) h) (e2 : ai σ h = .ok (.int k) h) (e3 : h[n]? = some (.lst xs)) (h0 : 0 ≤ k) (h1 : k < xs.length) :
    gSubL ao ai x σ h = some (σ, h.set n (.lst (xs.set k.toNat x))) := by
  unfold gSubL
  simp only [e1, e2, e3]
  rw [ixN_of h0 h1]
def TpV (p m : Int) : AO := .lst [.loc 0, .int p, .int m]
def Tp (h : AH) : Prop := ∃ (ns : List Int) (p m : Int), h[0]? = some (.lst (ns.map .int)) ∧ h[2]? = some (TpV p m) ∧ 0 ≤ p
def Mv (h h' : AH) : Prop := ∃ p m, h' = h.set 2 (TpV p m) ∧ 0 ≤ p
theorem Tp.lt {h : AH} (t : Tp h) : 2 < h.length := by
  obtain ⟨_, _, _, _, e, _⟩ := t
  exact (List.getElem?_eq_some_iff.mp e).1
theorem Tp.mv {h h' : AH} (t : Tp h) (m : Mv h h') : Tp h' := by
  have l := t.lt
  obtain ⟨ns, p, q, e0, e2, hp⟩ := t
  obtain ⟨p', q', rfl, hp'⟩ := m
  refine ⟨ns, p', q', ?_, ?_, hp'⟩
  · rw [List.getElem?_set]; simp [e0]
  · rw [List.getElem?_set]; simp [l]
theorem Tp.rf {h : AH} (t : Tp h) : Mv h h := by
  obtain ⟨ns, p, q, e0, e2, hp⟩ := t
  refine ⟨p, q, ?_, hp⟩
  obtain ⟨l, e⟩ := List.getElem?_eq_some_iff.mp e2
  rw [← e]; simp
theorem Mv.tr {a b c : AH} (x : Mv a b) (y : Mv b c) : Mv a c := by
  obtain ⟨p, q, rfl, _⟩ := x
  obtain ⟨p', q', rfl, hp⟩ := y
  exact ⟨p', q', by rw [List.set_set], hp⟩
theorem Mv.len {h h' : AH} (m : Mv h h') : h'.length = h.length := by
  obtain ⟨p, q, rfl, _⟩ := m; simp
theorem Tp.app {h : AH} (t : Tp h) (g : AH) : Tp (h ++ g) := by
  have l := t.lt
  obtain ⟨ns, p, q, e0, e2, hp⟩ := t
  exact ⟨ns, p, q, by rw [List.getElem?_append_left (by omega)]; exact e0, by rw [List.getElem?_append_left l]; exact e2, hp⟩
theorem Tp.split {h g h' : AH} (t : Tp h) (m : Mv (h ++ g) h') : ∃ h1, h' = h1 ++ g ∧ Mv h h1 := by
  obtain ⟨p, q, rfl, hp⟩ := m
  exact ⟨h.set 2 (TpV p q), by rw [List.set_append_left _ _ t.lt], p, q, rfl, hp⟩
theorem finC_mv {h h1 g : AH} {v v' : PV} (t : Tp h) (m : Mv h h1) (hv : frz h.length (h1 ++ g) v = some v') : finC h.length h (h1 ++ g) v = .ok v' h1 := by
  have l := t.lt
  have e := m.len
  obtain ⟨p, q, rfl, hp⟩ := m
  rw [finC_ok (fun n hn => ?_) hv]
  · rw [← e, List.take_left]
  · rw [List.getElem?_append_left (by omega), List.getElem?_set]
    by_cases c : 2 = n
    · subst c
      rw [if_pos rfl, if_pos l]
      exact .inr ⟨_, rfl, by simp [TpV, AO.low, PV.lows, PV.low]; omega⟩
    · rw [if_neg c]; exact .inl rfl
theorem finC_mv0 {h h1 : AH} {v : PV} (t : Tp h) (m : Mv h h1) (hv : v.low h.length = true) : finC h.length h h1 v = .ok v h1 := by
  have := finC_mv (g := []) (v := v) (v' := v) t m (by rw [List.append_nil]; exact frz_below hv)
  rwa [List.append_nil] at this
abbrev nI : Nat → PV := fun n => .int n
theorem nI_map (ks : List Nat) : ks.map nI = (ks.map fun n : Nat => (n : Int)).map PV.int := by rw [List.map_map]; rfl
theorem nI_get {ks : List Nat} {i : Nat} {x : Nat} (e : ks[i]? = some x) : atI (ks.map nI) (i : Int) = some (.int x) := atI_nat (by rw [List.getElem?_map, e]; rfl)
theorem low_nI (k : Nat) (ks : List Nat) : PV.lows k (ks.map nI) = true := by rw [nI_map]; exact low_ints _ _
theorem for_rc {g : AG} {b : AS} (lo c : Int) (n : Nat) (I : Nat → ASt → AH → Prop) {σ : ASt} {h : AH} (h0 : I 0 σ h)
    (step : ∀ i σ h, i < n → I i σ h → ∃ σ1 h1 σ2 h2, g (.int (lo + (i : Nat) * c)) σ h = some (σ1, h1) ∧ b σ1 h1 = .fin .nx σ2 h2 ∧ I (i + 1) σ2 h2) :
    ∃ σ' h', forA (itRc lo c n) g b n 0 σ h = .fin .nx σ' h' ∧ I n σ' h' := by
  have ln : ((List.range n).map fun i => PV.int (lo + (i : Nat) * c)).length = n := by simp
  have q := forA_rule (a := itRc lo c n) (g := g) (b := b) ((List.range n).map fun i => PV.int (lo + (i : Nat) * c)) I (fun r => ∃ σ' h', r = .fin .nx σ' h' ∧ I n σ' h') (by rw [ln]; exact Nat.le_refl _) (fun i σ h hi _ => by
      show (if i < n then some (some (PV.int (lo + i * c))) else some none) = _
      by_cases d : i < n
      · rw [if_pos d]; simp [d]
      · rw [if_neg d]; simp [d])
    (fun i x σ h ex hI => by
      have hi : i < n := by have := (List.getElem?_eq_some_iff.mp ex).1; rwa [ln] at this
      obtain ⟨σ1, h1, σ2, h2, e1, e2, e3⟩ := step i σ h hi hI
      have : x = .int (lo + (i : Nat) * c) := by simp [hi] at ex; exact ex.symm
      subst this
      exact ⟨σ1, h1, e1, .inl ⟨σ2, h2, .inl e2, e3⟩⟩) (fun σ h hI => ⟨σ, h, rfl, by rw [ln] at hI; exact hI⟩) h0
  exact q
theorem rgP0 (n : Nat) : rgP 0 (n : Int) = (List.range n).map nI := by
  unfold rgP
  have e : ((n : Int) - 0).toNat = n := by omega
  rw [e]
  refine List.map_congr_left fun i _ => ?_
  show PV.int (0 + (i : Int)) = .int i
  rw [Int.zero_add]
theorem bRg0 {n : Nat} (hn : n ≤ 1000000) : bRg 0 (n : Int) = true := by
  unfold bRg
  have e := @sizeLine_eq
  simp only [Bool.and_eq_true, decide_eq_true_eq]
  refine ⟨⟨⟨⟨?_, ?_⟩, ?_⟩, ?_⟩, ?_⟩ <;> first | omega | (try rw [sizeLine_eq]; omega)
theorem aItR3_ok {l : AL} {σ : ASt} {h h1 : AH} {i j : Int} (e : l σ h = .ok [.int i, .int j, .int (-1)] h1) (a1 : -1000000 ≤ i) (a2 : i ≤ 1000000) (b1 : -1000000 ≤ j) (b2 : j ≤ 1000000) : aItR3 l σ h = .ok (itRc i (-1) (i - j).toNat) h1 := by
  unfold aItR3
  rw [e]
  have c : (-1 : Int) = -1 ∧ -(2 ^ 62) ≤ i ∧ i < 2 ^ 62 ∧ -(2 ^ 62) ≤ j ∧ j < 2 ^ 62 := by omega
  simp only [Res.bind_ok]
  rw [if_pos ⟨trivial, c.2⟩]
theorem aItR1_ok {l : AL} {σ : ASt} {h h1 : AH} {j : Int} (e : l σ h = .ok [.int j] h1) (b1 : -1000000 ≤ j) (b2 : j ≤ 1000000) : aItR1 l σ h = .ok (itRg 0 j.toNat) h1 := by
  unfold aItR1
  rw [e]
  have c : -(2 ^ 62) ≤ j ∧ j < 2 ^ 62 := by omega
  simp only [Res.bind_ok]
  rw [if_pos c]
theorem aItR2_ok {l : AL} {σ : ASt} {h h1 : AH} {i j : Int} (e : l σ h = .ok [.int i, .int j] h1) (a1 : -1000000 ≤ i) (a2 : i ≤ 1000000) (b1 : -1000000 ≤ j) (b2 : j ≤ 1000000) : aItR2 l σ h = .ok (itRg i (j - i).toNat) h1 := by
  unfold aItR2
  rw [e]
  have c : -(2 ^ 62) ≤ i ∧ i < 2 ^ 62 ∧ -(2 ^ 62) ≤ j ∧ j < 2 ^ 62 := by omega
  simp only [Res.bind_ok]
  rw [if_pos c]
theorem aLstRg1_ok {m : AE} {σ : ASt} {h h1 : AH} {n : Nat} (e : m σ h = .ok (.int n) h1) (hn : n ≤ 1000000) : aLstRg1 m σ h = .ok (.loc h1.length) (h1 ++ [.lst ((List.range n).map nI)]) := by
  unfold aLstRg1
  rw [e, Res.bind_ok, ← rgP0]
  exact if_pos (bRg0 hn)
theorem aTupRg1_ok {m : AE} {σ : ASt} {h h1 : AH} {n : Nat} (e : m σ h = .ok (.int n) h1) (hn : n ≤ 1000000) : aTupRg1 m σ h = .ok (.tup ((List.range n).map nI)) h1 := by
  unfold aTupRg1
  rw [e, Res.bind_ok, ← rgP0]
  exact if_pos (bRg0 hn)
theorem aLc_pure {m : AIt} {a : AI} {vs : List Nat} {g : AG} {t : AT} {e : AE} {σ : ASt} {h h1 : AH} (em : m σ h = .ok a h1) (xs : List PV) (f : Nat → PV → Option PV) (hn : xs.length ≤ a.n) (hz : xs.length < 1000000)
    (hx : ∀ i (acc : List PV), i ≤ xs.length → a.nxt i (h1 ++ [.lst acc]) = some xs[i]?)
    (step : ∀ i x (acc : List PV), xs[i]? = some x → ∃ σ1, g x (wipeA σ vs) (h1 ++ [.lst acc]) = some (σ1, h1 ++ [.lst acc]) ∧
      ((t σ1 (h1 ++ [.lst acc]) = .ok false (h1 ++ [.lst acc]) ∧ f i x = none) ∨ ∃ y, t σ1 (h1 ++ [.lst acc]) = .ok true (h1 ++ [.lst acc]) ∧ e σ1 (h1 ++ [.lst acc]) = .ok y (h1 ++ [.lst acc]) ∧ f i x = some y)) :
    aLc m vs g t e σ h = .ok (.loc h1.length) (h1 ++ [.lst ((xs.zipIdx).filterMap fun p => f p.2 p.1)]) := by
  unfold aLc
  rw [em, Res.bind_ok]
  exact lcA_pure xs f hn hz hx step
theorem zip_map {F : PV → PV} : ∀ (xs : List PV) (k : Nat), ((xs.zipIdx k).filterMap fun p => some (F p.1)) = xs.map F
  | [], _ => rfl
  | x :: xs, k => by
    rw [List.zipIdx_cons, List.filterMap_cons]
    dsimp only
    rw [zip_map xs (k + 1)]; rfl
theorem zip_filter {P : PV → Bool} : ∀ (xs : List PV) (k : Nat), ((xs.zipIdx k).filterMap fun p => if P p.1 = true then some p.1 else none) = xs.filter P
  | [], _ => rfl
  | x :: xs, k => by
    rw [List.zipIdx_cons, List.filterMap_cons, zip_filter xs (k + 1)]
    by_cases c : P x = true <;> simp [c]
theorem aLc_map {m : AIt} {a : AI} {vs : List Nat} {g : AG} {t : AT} {e : AE} {σ : ASt} {h h1 : AH} (em : m σ h = .ok a h1) (xs : List PV) (F : PV → PV) (hn : xs.length ≤ a.n) (hz : xs.length < 1000000)
    (hx : ∀ i (acc : List PV), i ≤ xs.length → a.nxt i (h1 ++ [.lst acc]) = some xs[i]?)
    (step : ∀ x ∈ xs, ∀ (acc : List PV), ∃ σ1, g x (wipeA σ vs) (h1 ++ [.lst acc]) = some (σ1, h1 ++ [.lst acc]) ∧ t σ1 (h1 ++ [.lst acc]) = .ok true (h1 ++ [.lst acc]) ∧ e σ1 (h1 ++ [.lst acc]) = .ok (F x) (h1 ++ [.lst acc])) :
    aLc m vs g t e σ h = .ok (.loc h1.length) (h1 ++ [.lst (xs.map F)]) := by
  rw [aLc_pure em xs (fun _ x => some (F x)) hn hz hx (fun i x acc ex => by
    obtain ⟨σ1, e1, e2, e3⟩ := step x (List.mem_of_getElem? ex) acc
    exact ⟨σ1, e1, .inr ⟨_, e2, e3, rfl⟩⟩), zip_map]
theorem aLc_filter {m : AIt} {a : AI} {vs : List Nat} {g : AG} {t : AT} {e : AE} {σ : ASt} {h h1 : AH} (em : m σ h = .ok a h1) (xs : List PV) (P : PV → Bool) (hn : xs.length ≤ a.n) (hz : xs.length < 1000000)
    (hx : ∀ i (acc : List PV), i ≤ xs.length → a.nxt i (h1 ++ [.lst acc]) = some xs[i]?)
    (step : ∀ x ∈ xs, ∀ (acc : List PV), ∃ σ1, g x (wipeA σ vs) (h1 ++ [.lst acc]) = some (σ1, h1 ++ [.lst acc]) ∧ t σ1 (h1 ++ [.lst acc]) = .ok (P x) (h1 ++ [.lst acc]) ∧ e σ1 (h1 ++ [.lst acc]) = .ok x (h1 ++ [.lst acc])) :
    aLc m vs g t e σ h = .ok (.loc h1.length) (h1 ++ [.lst (xs.filter P)]) := by
  rw [aLc_pure em xs (fun _ x => if P x = true then some x else none) hn hz hx (fun i x acc ex => by
    obtain ⟨σ1, e1, e2, e3⟩ := step x (List.mem_of_getElem? ex) acc
    refine ⟨σ1, e1, ?_⟩
    cases c : P x
    · rw [c] at e2; exact .inl ⟨e2, by simp⟩
    · rw [c] at e2; exact .inr ⟨_, e2, e3, by simp⟩), zip_filter]
/-- a list made item by item, the tape moving -/
theorem aLc_tape {m : AIt} {a : AI} {vs : List Nat} {g : AG} {e : AE} {σ : ASt} {h h1 : AH} (em : m σ h = .ok a h1) (xs : List PV) (I : List PV → AH → Prop) (hn : xs.length ≤ a.n) (hz : xs.length < 1000000)
    (hx : ∀ i (g : AH), i ≤ xs.length → a.nxt i g = some xs[i]?) (h0 : I [] h1) (hl : ∀ acc g, I acc g → g.length = h1.length)
    (step : ∀ x ∈ xs, ∀ (acc : List PV) (h2 : AH), I acc h2 → acc.length < xs.length → ∃ σ1 y h3, g x (wipeA σ vs) (h2 ++ [.lst acc]) = some (σ1, h2 ++ [.lst acc]) ∧ e σ1 (h2 ++ [.lst acc]) = .ok y (h3 ++ [.lst acc]) ∧ I (acc ++ [y]) h3) :
    ∃ acc h3, aLc m vs g tYes' e σ h = .ok (.loc h1.length) (h3 ++ [.lst acc]) ∧ I acc h3 ∧ acc.length = xs.length := by
  unfold aLc
  rw [em, Res.bind_ok]
  have key : ∀ (k n i : Nat) (acc : List PV) (h2 : AH), k = xs.length - i → i ≤ xs.length → xs.length ≤ n + i → acc.length = i → I acc h2 →
      ∃ acc' h3, lcA a vs g tYes' e σ h1.length n i (h2 ++ [.lst acc]) = .ok (.loc h1.length) (h3 ++ [.lst acc']) ∧ I acc' h3 ∧ acc'.length = xs.length := by
    intro k
    induction k with
    | zero =>
      intro n i acc h2 hk hi hni ha hI
      have ei : i = xs.length := by omega
      refine ⟨acc, h2, ?_, hI, by omega⟩
      unfold lcA
      rw [hx i _ hi, List.getElem?_eq_none (by omega)]
    | succ k ih =>
      intro n i acc h2 hk hi hni ha hI
      have hlt : i < xs.length := by omega
      have ex : xs[i]? = some xs[i] := by simp [hlt]
      obtain ⟨σ1, y, h3, e1, e3, hI3⟩ := step xs[i] (List.getElem_mem hlt) acc h2 hI (by omega)
      unfold lcA
      rw [hx i _ hi, ex]
      cases n with
      | zero => omega
      | succ n =>
        simp only [e1, tYes'_eq, e3]
        have l3 := hl _ _ hI3
        have en : (h3 ++ [AO.lst acc])[h1.length]? = some (.lst acc) := by rw [← l3]; simp
        simp only [en]
        rw [if_pos (size_lt (by omega))]
        have es : (h3 ++ [AO.lst acc]).set h1.length (.lst (acc ++ [y])) = h3 ++ [.lst (acc ++ [y])] := by rw [← l3]; simp
        rw [es]
        exact ih n (i + 1) (acc ++ [y]) h3 (by omega) (by omega) (by omega) (by simp; omega) hI3
  exact key xs.length a.n 0 [] h1 rfl (Nat.zero_le _) (by omega) rfl h0
theorem aCall_ok {n : Nat} {m : FN} {l : AL} {σ : ASt} {h h1 : AH} {xs : List PV} {r : Res PV} (el : l σ h = .ok xs h1) (hn : xs.length = n) (em : m xs h1 = r) : aCall n m l σ h = r := by
  unfold aCall; rw [el, Res.bind_ok, if_pos hn, em]
theorem aFn_ok {f : FN} {l : AL} {σ : ASt} {h h1 : AH} {xs : List PV} {r : Res PV} (el : l σ h = .ok xs h1) (em : f xs h1 = r) : aFn f l σ h = r := by
  unfold aFn; rw [el, Res.bind_ok, em]
theorem aOp_ok {f : F2} {a b : AE} {σ : ASt} {h h1 h2 : AH} {x y : PV} {r : Res PV} (ea : a σ h = .ok x h1) (eb : b σ h1 = .ok y h2) (ef : f x y h2 = r) : aOp f a b σ h = r := by
  unfold aOp; rw [ea, Res.bind_ok, eb, Res.bind_ok, ef]
theorem aCons_ok {a : AE} {l : AL} {σ : ASt} {h h1 h2 : AH} {x : PV} {xs : List PV} (ea : a σ h = .ok x h1) (el : l σ h1 = .ok xs h2) : aCons a l σ h = .ok (x :: xs) h2 := by
  unfold aCons; rw [ea, Res.bind_ok, el, Res.bind_ok]
theorem aTup_ok {l : AL} {σ : ASt} {h h1 : AH} {xs : List PV} (el : l σ h = .ok xs h1) (hz : xs.length ≤ 1000000) : aTup l σ h = .ok (.tup xs) h1 := by
  unfold aTup; rw [el, Res.bind_ok, if_pos (size_ok hz)]
theorem aLst_ok {l : AL} {σ : ASt} {h h1 : AH} {xs : List PV} (el : l σ h = .ok xs h1) (hz : xs.length ≤ 1000000) : aLst l σ h = .ok (.loc h1.length) (h1 ++ [.lst xs]) := by
  unfold aLst; rw [el, Res.bind_ok, if_pos (size_ok hz)]; rfl
theorem aB_ok {m : AE} {σ : ASt} {h h1 : AH} {b : Bool} (e : m σ h = .ok (.bl b) h1) : aB m σ h = .ok b h1 := by
  unfold aB; rw [e, Res.bind_ok]
theorem aTr_ok {m : AE} {σ : ASt} {h h1 : AH} {b : Bool} (e : m σ h = .ok (.bl b) h1) : aTr m σ h = .ok b h1 := by
  unfold aTr; rw [e, Res.bind_ok]; rfl
theorem tNot_ok {m : AT} {σ : ASt} {h h1 : AH} {b : Bool} (e : m σ h = .ok b h1) : tNot m σ h = .ok (!b) h1 := by
  unfold tNot; rw [e, Res.bind_ok]
theorem aIf_t {c : AT} {a b : AE} {σ : ASt} {h h1 : AH} (e : c σ h = .ok true h1) : aIf c a b σ h = a σ h1 := by
  unfold aIf; rw [e, Res.bind_ok, if_pos rfl]
theorem aIf_f {c : AT} {a b : AE} {σ : ASt} {h h1 : AH} (e : c σ h = .ok false h1) : aIf c a b σ h = b σ h1 := by
  unfold aIf; rw [e, Res.bind_ok, if_neg (by decide)]
theorem aM_ok {ty : PV → AH → Bool} {f : FM} {o : AE} {l : AL} {σ : ASt} {h h1 h2 : AH} {x : PV} {xs : List PV} {r : Res PV} (eo : o σ h = .ok x h1) (et : ty x h1 = true) (el : l σ h1 = .ok xs h2) (em : f x xs h2 = r) : aM ty f o l σ h = r := by
  unfold aM; rw [eo, Res.bind_ok, if_pos et, el, Res.bind_ok, em]
theorem sSet_ok {i : Nat} {m : AE} {σ : ASt} {h h1 : AH} {v : PV} (e : m σ h = .ok v h1) : sSet i m σ h = .fin .nx (σ.set i (some v)) h1 := by
  unfold sSet; rw [e]; rfl
theorem sExpr_ok {m : AE} {σ : ASt} {h h1 : AH} {v : PV} (e : m σ h = .ok v h1) : sExpr m σ h = .fin .nx σ h1 := by
  unfold sExpr; rw [e]; rfl
theorem sRet_ok {m : AE} {σ : ASt} {h h1 : AH} {v : PV} (e : m σ h = .ok v h1) : sRet m σ h = .fin (.rt v) σ h1 := by
  unfold sRet; rw [e]; rfl
theorem sAsg_ok {m : AE} {g : AG} {σ σ2 : ASt} {h h1 h2 : AH} {v : PV} (e : m σ h = .ok v h1) (eg : g v σ h1 = some (σ2, h2)) : sAsg m g σ h = .fin .nx σ2 h2 := by
  unfold sAsg; rw [e, liftS_ok', eg]
theorem sIf_t {c : AT} {a b : AS} {σ : ASt} {h h1 : AH} (e : c σ h = .ok true h1) : sIf c a b σ h = a σ h1 := by
  unfold sIf; rw [e, liftS_ok', if_pos rfl]
theorem sIf_f {c : AT} {a b : AS} {σ : ASt} {h h1 : AH} (e : c σ h = .ok false h1) : sIf c a b σ h = b σ h1 := by
  unfold sIf; rw [e, liftS_ok', if_neg (by decide)]
theorem sFor_ok {m : AIt} {g : AG} {b : AS} {σ : ASt} {h h1 : AH} {a : AI} {r : SRes} (e : m σ h = .ok a h1) (ef : forA a g b a.n 0 σ h1 = r) : sFor m g b σ h = r := by
  unfold sFor; rw [e, liftS_ok', ef]
theorem sPar_ok {i j : Nat} {l : AL} {σ : ASt} {h h1 : AH} {x y : PV} (e : l σ h = .ok [x, y] h1) : sPar i j l σ h = .fin .nx ((σ.set i (some x)).set j (some y)) h1 := by
  unfold sPar; rw [e, liftS_ok']
theorem sSeq_ok {a b : AS} {σ σ1 : ASt} {h h1 : AH} {r : SRes} (ea : a σ h = .fin .nx σ1 h1) (eb : b σ1 h1 = r) : sSeq a b σ h = r := by rw [sSeq_eq, ea, ← eb]
theorem for_seq {g : AG} {b : AS} {a : AI} (xs : List PV) (I : Nat → ASt → AH → Prop) (hn : a.n = xs.length) (hx : ∀ i g, a.nxt i g = some xs[i]?) {σ : ASt} {h : AH} (h0 : I 0 σ h)
    (step : ∀ i x σ h, xs[i]? = some x → I i σ h → ∃ σ1 h1 σ2 h2, g x σ h = some (σ1, h1) ∧ b σ1 h1 = .fin .nx σ2 h2 ∧ I (i + 1) σ2 h2) :
    ∃ σ' h', forA a g b a.n 0 σ h = .fin .nx σ' h' ∧ I xs.length σ' h' :=
  forA_rule (a := a) xs I (fun r => ∃ σ' h', r = .fin .nx σ' h' ∧ I xs.length σ' h') (by omega) (fun i _ h _ _ => hx i h)
    (fun i x σ h ex hI => let ⟨σ1, h1, σ2, h2, e1, e2, e3⟩ := step i x σ h ex hI; ⟨σ1, h1, e1, .inl ⟨σ2, h2, .inl e2, e3⟩⟩) (fun σ h hI => ⟨σ, h, rfl, hI⟩) h0
theorem app_at {k : Nat} {g : AH} {xs : List PV} {y : PV} (e : g[k]? = some (.lst xs)) (hz : xs.length < 1000000) : mAppend (.loc k) [y] g = .ok .non (g.set k (.lst (xs ++ [y]))) := mAppend_ok e hz
theorem app_last {k : Nat} {g : AH} {xs : List PV} {y : PV} (hk : g.length = k) (hz : xs.length < 1000000) : mAppend (.loc k) [y] (g ++ [.lst xs]) = .ok .non (g ++ [.lst (xs ++ [y])]) := by
  subst hk
  rw [mAppend_ok (xs := xs) (by simp) hz]; simp
theorem isL_last {k : Nat} {g : AH} {xs : List PV} (hk : g.length = k) : isL (.loc k) (g ++ [.lst xs]) = true := by
  subst hk; exact isL_loc (xs := xs) (by simp)
def pairV (e : Nat × Nat) : PV := .tup [.int e.1, .int e.2]
def lineV (l : Str × Nat × Nat) : PV := .tup [.str l.1, .int l.2.1, .int l.2.2]
def netV (ns : List Str) (L : List (Str × Nat × Nat)) : PV := .tup [.tup (ns.map .str), .tup (L.map lineV)]
structure Net (ns : List Str) (L : List (Str × Nat × Nat)) : Prop where
  pos : 0 < ns.length
  lt : ∀ l ∈ L, l.2.1 < ns.length ∧ l.2.2 < ns.length
  cn : ∀ p, p < ns.length → MG.Cn (L.map (·.2)) 0 p
  n10 : ns.length ≤ 10
  l20 : L.length ≤ 20
theorem getLast_app {α : Type} (h : List α) (o : α) : (h ++ [o])[h.length]? = some o := by simp
theorem set_last {α : Type} (h : List α) (o o' : α) : (h ++ [o]).set h.length o' = h ++ [o'] := by simp
end AB

/-! MU: ways along lines, trees -/
namespace MG
theorem Cn.one {E : List (Nat × Nat)} {a b : Nat} (h : (a, b) ∈ E) : Cn E a b := .fw (.rf a) h
/-- a line more -/
theorem Cn.cut {E : List (Nat × Nat)} {x y a b : Nat} (h : Cn (E ++ [(x, y)]) a b) : Cn E a b ∨ (Cn E a x ∧ Cn E y b) ∨ (Cn E a y ∧ Cn E x b) := by
  induction h with
  | rf => exact .inl (.rf _)
  | @fw b c _ m ih =>
    rcases List.mem_append.mp m with m | m
    · rcases ih with i | ⟨i, j⟩ | ⟨i, j⟩
      · exact .inl (.fw i m)
      · exact .inr (.inl ⟨i, .fw j m⟩)
      · exact .inr (.inr ⟨i, .fw j m⟩)
    · cases (List.mem_singleton.mp m)
      rcases ih with i | ⟨i, j⟩ | ⟨i, j⟩
      · exact .inr (.inl ⟨i, .rf _⟩)
      · exact .inr (.inl ⟨i, .rf _⟩)
      · exact .inl i
  | @bw b c _ m ih =>
    rcases List.mem_append.mp m with m | m
    · rcases ih with i | ⟨i, j⟩ | ⟨i, j⟩
      · exact .inl (.bw i m)
      · exact .inr (.inl ⟨i, .bw j m⟩)
      · exact .inr (.inr ⟨i, .bw j m⟩)
    · cases (List.mem_singleton.mp m)
      rcases ih with i | ⟨i, j⟩ | ⟨i, j⟩
      · exact .inr (.inr ⟨i, .rf _⟩)
      · exact .inl i
      · exact .inr (.inr ⟨i, .rf _⟩)
section
variable (e : Nat → Nat × Nat)
/-- the lines ks hang a and b together -/
def Jn (ks : List Nat) (a b : Nat) : Prop := Cn (ks.map e) a b
variable {e}
theorem Jn.rf {ks : List Nat} (a : Nat) : Jn e ks a a := Cn.rf a
theorem Jn.tr {ks : List Nat} {a b c : Nat} (x : Jn e ks a b) (y : Jn e ks b c) : Jn e ks a c := Cn.tr x y
theorem Jn.sm {ks : List Nat} {a b : Nat} (x : Jn e ks a b) : Jn e ks b a := Cn.sm x
theorem Jn.mono {ks js : List Nat} {a b : Nat} (x : Jn e ks a b) (s : ∀ k ∈ ks, k ∈ js) : Jn e js a b := Cn.mono (fun p hp => by
  obtain ⟨k, hk, rfl⟩ := List.mem_map.mp hp
  exact List.mem_map.mpr ⟨k, s k hk, rfl⟩) x
theorem Jn.line {ks : List Nat} {k : Nat} (h : k ∈ ks) : Jn e ks (e k).1 (e k).2 := Cn.one (List.mem_map.mpr ⟨k, h, rfl⟩)
theorem Jn.cut {ks : List Nat} {k a b : Nat} (h : Jn e (ks ++ [k]) a b) : Jn e ks a b ∨ (Jn e ks a (e k).1 ∧ Jn e ks (e k).2 b) ∨ (Jn e ks a (e k).2 ∧ Jn e ks (e k).1 b) := by
  unfold Jn at h
  rw [List.map_append] at h
  exact Cn.cut (x := (e k).1) (y := (e k).2) h
/-- without a line -/
abbrev wo (ks : List Nat) (k : Nat) : List Nat := ks.filter fun j => !decide (j = k)
theorem mem_wo {ks : List Nat} {k j : Nat} : j ∈ wo ks k ↔ j ∈ ks ∧ j ≠ k := by simp [wo]
theorem wo_back {ks : List Nat} {k j : Nat} (h : j ∈ ks) : j ∈ wo ks k ++ [k] := by
  by_cases c : j = k
  · subst c; simp
  · exact List.mem_append_left _ (mem_wo.mpr ⟨h, c⟩)
/-- no ring -/
def Fst (e : Nat → Nat × Nat) (ks : List Nat) : Prop := ∀ k ∈ ks, ¬ Jn e (wo ks k) (e k).1 (e k).2
theorem Fst.sub {ks js : List Nat} (f : Fst e ks) (s : ∀ k ∈ js, k ∈ ks) : Fst e js := fun k hk h => f k (s k hk) (h.mono fun j hj => by
  rw [mem_wo] at hj ⊢; exact ⟨s j hj.1, hj.2⟩)
theorem Fst.nil : Fst e [] := fun k hk => by cases hk
theorem Fst.add {ks : List Nat} {k : Nat} (f : Fst e ks) (h : ¬ Jn e ks (e k).1 (e k).2) : Fst e (ks ++ [k]) := by
  have nk : k ∉ ks := fun c => h (Jn.line c)
  intro j hj c
  rcases List.mem_append.mp hj with hj | hj
  · have jk : j ≠ k := fun c => nk (c ▸ hj)
    have c1 : Jn e (wo ks j ++ [k]) (e j).1 (e j).2 := c.mono fun i hi => by
      obtain ⟨h1, h2⟩ := mem_wo.mp hi
      rcases List.mem_append.mp h1 with h1 | h1
      · exact List.mem_append_left _ (mem_wo.mpr ⟨h1, h2⟩)
      · exact List.mem_append_right _ h1
    have up : ∀ {a b}, Jn e (wo ks j) a b → Jn e ks a b := fun x => x.mono fun i hi => (mem_wo.mp hi).1
    rcases c1.cut with c1 | ⟨c1, c2⟩ | ⟨c1, c2⟩
    · exact f j hj c1
    · exact h ((up c1).sm.tr ((Jn.line hj).tr (up c2).sm))
    · exact h ((up c2).tr ((Jn.line hj).sm.tr (up c1)))
  · rw [List.mem_singleton] at hj
    subst hj
    exact h (c.mono fun i hi => by
      obtain ⟨h1, h2⟩ := mem_wo.mp hi
      rcases List.mem_append.mp h1 with h1 | h1
      · exact h1
      · exact absurd (List.mem_singleton.mp h1) h2)
/-- a way of lines -/
inductive Way (e : Nat → Nat × Nat) (ks : List Nat) : Nat → List Nat → Nat → Prop
  | nl (a : Nat) : Way e ks a [] a
  | sn {a b c : Nat} {p : List Nat} {k : Nat} : Way e ks a p b → k ∈ ks → (e k = (b, c) ∨ e k = (c, b)) → Way e ks a (p ++ [k]) c
theorem Way.mem {ks : List Nat} {a b : Nat} {p : List Nat} (w : Way e ks a p b) : ∀ k ∈ p, k ∈ ks := by
  induction w with
  | nl => intro k hk; cases hk
  | sn _ m _ ih =>
    intro k hk
    rcases List.mem_append.mp hk with hk | hk
    · exact ih k hk
    · rw [List.mem_singleton] at hk; subst hk; exact m
theorem Way.mono {ks js : List Nat} {a b : Nat} {p : List Nat} (w : Way e ks a p b) (s : ∀ k ∈ p, k ∈ js) : Way e js a p b := by
  induction w with
  | nl => exact .nl _
  | sn _ m h ih => exact .sn (ih fun k hk => s k (List.mem_append_left _ hk)) (s _ (by simp)) h
theorem Way.jn {ks : List Nat} {a b : Nat} {p : List Nat} (w : Way e ks a p b) : Jn e ks a b := by
  induction w with
  | nl => exact .rf _
  | sn _ m h ih =>
    rcases h with h | h
    · have := Jn.line (e := e) m; rw [h] at this; exact ih.tr this
    · have := Jn.line (e := e) m; rw [h] at this; exact ih.tr this.sm
theorem Way.split {ks : List Nat} {a b : Nat} {p : List Nat} (w : Way e ks a p b) : ∀ {p1 p2 : List Nat} {k : Nat}, p = p1 ++ k :: p2 → ∃ x y, Way e ks a p1 x ∧ (e k = (x, y) ∨ e k = (y, x)) ∧ Way e ks y p2 b := by
  induction w with
  | nl => intro p1 p2 k h; cases p1 <;> cases h
  | @sn b c p j w m h ih =>
    intro p1 p2 k hp
    rcases List.eq_nil_or_concat p2 with rfl | ⟨q, z, rfl⟩
    · have := List.append_inj_right' hp rfl
      have h2 := List.append_inj_left' hp rfl
      cases this
      subst h2
      exact ⟨b, c, w, h, .nl _⟩
    · have hp' : p ++ [j] = (p1 ++ k :: q) ++ [z] := by rw [hp]; simp
      have h1 := List.append_inj_right' hp' rfl
      have h2 := List.append_inj_left' hp' rfl
      cases h1
      obtain ⟨x, y, w1, j1, w2⟩ := ih h2
      refine ⟨x, y, w1, j1, ?_⟩
      have := Way.sn w2 m h
      simpa using this
theorem Way.cat {ks : List Nat} {a b c : Nat} {p q : List Nat} (w : Way e ks a p b) (v : Way e ks b q c) : Way e ks a (p ++ q) c := by
  induction v with
  | nl => simpa using w
  | sn _ m h ih => have := Way.sn ih m h; simpa using this
/-- what is on a way in a tree -/
theorem Way.on {ks : List Nat} (f : Fst e ks) {a b : Nat} {p : List Nat} (w : Way e ks a p b) (nd : p.Nodup) {k : Nat} (hk : k ∈ ks) : k ∈ p ↔ ¬ Jn e (wo ks k) a b := by
  constructor
  · intro h c
    obtain ⟨p1, p2, rfl⟩ := List.append_of_mem h
    obtain ⟨x, y, w1, j, w2⟩ := w.split rfl
    have nd' := List.nodup_append.mp nd
    have n1 : k ∉ p1 := fun c => nd'.2.2 k c k (by simp) rfl
    have n2 : k ∉ p2 := (List.nodup_cons.mp nd'.2.1).1
    have g : ∀ {x y q}, Way e ks x q y → k ∉ q → Jn e (wo ks k) x y := fun w n => (w.mono (js := wo ks k) fun j hj => mem_wo.mpr ⟨w.mem j hj, fun c => n (c ▸ hj)⟩).jn
    have xy : Jn e (wo ks k) x y := (g w1 n1).sm.tr (c.tr (g w2 n2).sm)
    have := f k hk
    rcases j with j | j
    · rw [j] at this; exact this xy
    · rw [j] at this; exact this xy.sm
  · intro h
    by_cases c : k ∈ p
    · exact c
    · exact absurd (w.mono (js := wo ks k) fun j hj => mem_wo.mpr ⟨w.mem j hj, fun d => c (d ▸ hj)⟩).jn h
theorem Way.nil_eq {ks : List Nat} {a b : Nat} {p : List Nat} (w : Way e ks a p b) (h : p = []) : a = b := by
  cases w with
  | nl => rfl
  | sn => simp at h
theorem Way.nil_of {ks : List Nat} (f : Fst e ks) {a : Nat} {p : List Nat} (w : Way e ks a p a) (nd : p.Nodup) : p = [] := by
  cases p with
  | nil => rfl
  | cons k p => exact absurd (Jn.rf a) ((w.on f nd (w.mem k (by simp))).mp (by simp))
/-- ways in a tree: one only -/
theorem Way.one {ks : List Nat} (f : Fst e ks) : ∀ {p q : List Nat} {a b : Nat}, Way e ks a p b → p.Nodup → Way e ks a q b → q.Nodup → p = q
  | [], q, a, b, w, nd, v, nv => by
    have := w.nil_eq rfl
    subst this
    exact (v.nil_of f nv).symm
  | k :: p, q, a, b, w, nd, v, nv => by
    have hk := w.mem k (by simp)
    have kq : k ∈ q := (v.on f nv hk).mpr ((w.on f nd hk).mp (by simp))
    obtain ⟨x, y, w1, j, w2⟩ := w.split (p1 := []) (p2 := p) rfl
    have := w1.nil_eq rfl
    subst this
    obtain ⟨q1, q2, rfl⟩ := List.append_of_mem kq
    obtain ⟨x', y', v1, j', v2⟩ := v.split rfl
    have nv' := List.nodup_append.mp nv
    have n2 : k ∉ q2 := (List.nodup_cons.mp nv'.2.1).1
    have cs : (x' = a ∧ y' = y) ∨ (x' = y ∧ y' = a) := by
      rcases j with j | j <;> rcases j' with j' | j' <;> rw [j] at j' <;> cases j' <;> first | exact .inl ⟨rfl, rfl⟩ | exact .inr ⟨rfl, rfl⟩
    rcases cs with ⟨rfl, rfl⟩ | ⟨rfl, rfl⟩
    · have e1 := v1.nil_of f nv'.1
      subst e1
      rw [Way.one f w2 (List.nodup_cons.mp nd).2 v2 (List.nodup_cons.mp nv'.2.1).2]
      rfl
    · have := (v2.on f (List.nodup_cons.mp nv'.2.1).2 hk).mpr ((v.on f nv hk).mp kq)
      exact absurd this n2
open Classical in
/-- the lines of the way in a tree, as a lot -/
noncomputable def onW (e : Nat → Nat × Nat) (ks : List Nat) (a b : Nat) : List Nat := ks.filter fun k => !decide (Jn e (wo ks k) a b)
theorem Way.perm {ks : List Nat} (nk : ks.Nodup) (f : Fst e ks) {a b : Nat} {p : List Nat} (w : Way e ks a p b) (nd : p.Nodup) : p.Perm (onW e ks a b) := by
  refine (List.perm_ext_iff_of_nodup nd (nk.filter _)).mpr fun k => ?_
  constructor
  · intro h
    have hk := w.mem k h
    exact List.mem_filter.mpr ⟨hk, by simpa using (w.on f nd hk).mp h⟩
  · intro h
    obtain ⟨hk, h2⟩ := List.mem_filter.mp h
    exact (w.on f nd hk).mpr (by simpa using h2)
/-- a line changed for another one -/
theorem Fst.swap {ks : List Nat} (f : Fst e ks) {k j : Nat} (h : ¬ Jn e (wo ks j) (e k).1 (e k).2) : Fst e (wo ks j ++ [k]) :=
  (f.sub fun i hi => (mem_wo.mp hi).1).add h
theorem swap_jn {ks : List Nat} {k j : Nat} (c : Jn e ks (e k).1 (e k).2) (h : ¬ Jn e (wo ks j) (e k).1 (e k).2) {a b : Nat} (g : Jn e ks a b) : Jn e (wo ks j ++ [k]) a b := by
  have kk : Jn e (wo ks j ++ [k]) (e k).1 (e k).2 := Jn.line (by simp)
  have up : ∀ {a b}, Jn e (wo ks j) a b → Jn e (wo ks j ++ [k]) a b := fun x => x.mono fun i hi => List.mem_append_left _ hi
  have jj : Jn e (wo ks j ++ [k]) (e j).1 (e j).2 := by
    have c1 : Jn e (wo ks j ++ [j]) (e k).1 (e k).2 := c.mono fun i hi => wo_back hi
    rcases c1.cut with c1 | ⟨c1, c2⟩ | ⟨c1, c2⟩
    · exact absurd c1 h
    · exact (up c1).sm.tr (kk.tr (up c2).sm)
    · exact (up c2).tr (kk.sm.tr (up c1))
  have g1 : Jn e (wo ks j ++ [j]) a b := g.mono fun i hi => wo_back hi
  rcases g1.cut with g1 | ⟨g1, g2⟩ | ⟨g1, g2⟩
  · exact up g1
  · exact (up g1).tr (jj.tr (up g2))
  · exact (up g1).tr (jj.sm.tr (up g2))
theorem Fst.perm {ks js : List Nat} (f : Fst e ks) (p : js.Perm ks) : Fst e js := f.sub fun k hk => p.mem_iff.mp hk
theorem Jn.perm {ks js : List Nat} {a b : Nat} (h : Jn e ks a b) (p : ks.Perm js) : Jn e js a b := h.mono fun k hk => p.mem_iff.mp hk
end
end MG

/-! MV: a tape of any kind: the first K objects -/
namespace AB
open PySem PySem.Spec
open PyProof.Rows hiding St
open L2
structure TK where
  K : Nat
  ok : AH → Prop
  len : ∀ t, ok t → t.length = K
  low : ∀ t, ok t → ∀ o ∈ t, AO.low K o = true
theorem AO.low_mono {k j : Nat} (h : k ≤ j) (o : AO) (l : AO.low k o = true) : AO.low j o = true := by
  cases o <;> exact belows_mono h _ l
def TpG (T : TK) (h : AH) : Prop := T.ok (h.take T.K)
def MvG (T : TK) (h h' : AH) : Prop := T.K ≤ h.length ∧ ∃ t, T.ok t ∧ h' = t ++ h.drop T.K
section
variable {T : TK}
theorem TpG.le {h : AH} (t : TpG T h) : T.K ≤ h.length := by have := T.len _ t; rw [List.length_take] at this; omega
theorem TpG.mv {h h' : AH} (_t : TpG T h) (m : MvG T h h') : TpG T h' := by
  obtain ⟨_, s, o, rfl⟩ := m
  have := T.len _ o
  unfold TpG
  rw [List.take_append_of_le_length (by omega), List.take_of_length_le (by omega)]; exact o
theorem TpG.rf {h : AH} (t : TpG T h) : MvG T h h := ⟨t.le, _, t, (List.take_append_drop _ _).symm⟩
theorem MvG.tr {a b c : AH} (x : MvG T a b) (y : MvG T b c) : MvG T a c := by
  obtain ⟨l, s, o, rfl⟩ := x
  obtain ⟨_, u, p, rfl⟩ := y
  refine ⟨l, u, p, ?_⟩
  have := T.len _ o
  rw [List.drop_left' this]
theorem MvG.len {h h' : AH} (m : MvG T h h') : h'.length = h.length := by
  obtain ⟨l, s, o, rfl⟩ := m
  have := T.len _ o
  simp; omega
theorem TpG.app {h : AH} (t : TpG T h) (g : AH) : TpG T (h ++ g) := by
  unfold TpG
  rw [List.take_append_of_le_length t.le]; exact t
theorem TpG.split {h g h' : AH} (t : TpG T h) (m : MvG T (h ++ g) h') : ∃ h1, h' = h1 ++ g ∧ MvG T h h1 := by
  obtain ⟨_, s, o, rfl⟩ := m
  exact ⟨s ++ h.drop T.K, by rw [List.drop_append_of_le_length t.le, List.append_assoc], t.le, s, o, rfl⟩
theorem MvG.app {h h1 : AH} (m : MvG T h h1) (g : AH) : MvG T (h ++ g) (h1 ++ g) := by
  obtain ⟨l, s, o, rfl⟩ := m
  exact ⟨by simp; omega, s, o, by rw [List.drop_append_of_le_length l, List.append_assoc]⟩
theorem MvG.low {h h1 : AH} (m : MvG T h h1) (n : Nat) (hn : n < h.length) : h1[n]? = h[n]? ∨ ∃ o, h1[n]? = some o ∧ AO.low h.length o = true := by
  obtain ⟨l, s, o, rfl⟩ := m
  have ls := T.len _ o
  by_cases c : n < T.K
  · refine .inr ⟨s[n], ?_, AO.low_mono l _ (T.low _ o _ (List.getElem_mem (by omega)))⟩
    rw [List.getElem?_append_left (by omega)]; exact List.getElem?_eq_getElem _
  · refine .inl ?_
    rw [List.getElem?_append_right (by omega), List.getElem?_drop, ls]
    congr 1; omega
theorem finC_mvG {h h1 g : AH} {v v' : PV} (m : MvG T h h1) (hv : frz h.length (h1 ++ g) v = some v') : finC h.length h (h1 ++ g) v = .ok v' h1 := by
  have e := m.len
  rw [finC_ok (fun n hn => ?_) hv]
  · rw [← e, List.take_left]
  · rw [List.getElem?_append_left (by omega)]
    exact m.low n hn
theorem finC_mvG0 {h h1 : AH} {v : PV} (m : MvG T h h1) (hv : v.low h.length = true) : finC h.length h h1 v = .ok v h1 := by
  have := finC_mvG (g := []) (v := v) (v' := v) m (by rw [List.append_nil]; exact frz_below hv)
  rwa [List.append_nil] at this
end
theorem mPop_last {n : Nat} {xs : List PV} {y : PV} {h : AH} (e : h[n]? = some (.lst (xs ++ [y]))) : mPop (.loc n) [] h = .ok y (h.set n (.lst xs)) := by
  unfold mPop
  simp only [e]
  have : (xs ++ [y])[(xs ++ [y]).length - 1]? = some y := by simp
  rw [this]
  simp [put]
theorem mPop_at {n k : Nat} {xs : List PV} {y : PV} {h : AH} (e : h[n]? = some (.lst xs)) (hk : xs[k]? = some y) (hz : xs.length ≤ 1000000) : mPop (.loc n) [.int k] h = .ok y (h.set n (.lst (xs.eraseIdx k))) := by
  have kl := (List.getElem?_eq_some_iff.mp hk).1
  unfold mPop
  simp only [e]
  rw [if_pos (by omega), ixN_of (by omega) (by omega)]
  simp only [Int.toNat_natCast, hk]
  rfl
end AB

/-! AB13: sorted of tuples of ints, tuples from behind -/
namespace AB
open PySem PySem.Spec
open PyProof.Rows hiding St
open L2
theorem hu65 {k : Nat} {A : Around} (r : Room k A) : A.units + 65 < cLine := by have := r.un; omega
section
variable {prog : Program} {w : World} {A : Around} {E : Value → Shared → Prop} {s : Shared}
def gathered (h : Heap) (us : List Value) : Heap := (h.push (seqObj "list" #[] 0)).update h.objs.size (Obj.mapSeq (· ++ us.toArray))
theorem gather_tup {t : Addr} {us : List Value} {R : List Value → Shared → Prop} (ht : IsTup s.heap t us.toArray) (hz : us.length ≤ sizeLine) (q : R us { s with heap := gathered s.heap us }) :
    wpAny (model prog w) A (collect (.ref t)) R E s := by
  obtain ⟨o, eo, ec, n, ed⟩ := id ht
  unfold collect
  refine wpAny_bind (wpAny_runValue (codeAny_builtin PyProof.Rows.entry_proto_collect' ?_))
  show wpAny _ _ (do again (.builtin "list.__iadd__" ⟨[← newList [], .ref t], []⟩)) _ _ s
  refine wpAny_bind (wpAny_newList (wpAny_pure ⟨Code.quiet_builtin _ (by decide +kernel), codeAny_builtin PyProof.Rows.entry_list_iadd' ?_⟩))
  show wpAny _ _ (Builtin.List.listExtendWith (.ref s.heap.objs.size) (.ref t) (.ref s.heap.objs.size)) _ _ { s with heap := s.heap.push (seqObj "list" #[] 0) }
  unfold Builtin.List.listExtendWith
  have eo' : (s.heap.push (seqObj "list" #[] 0)).get? t = some o := Heap.get?_push_of_some _ eo
  refine wpAny_bind (wpAny_typeOf (T := "tuple") ⟨o, eo', ec⟩ ?_)
  have k1 : (Value.type "tuple" == Value.type "tuple") = true := by rfl
  rw [if_pos (by rw [k1]; simp)]
  refine wpAny_bind (PyProof.Rows.listItems_at eo' ed ?_)
  refine wpAny_bind (PyProof.Rows.listItems_at (xs := #[]) (n := 0) (Heap.get?_push_size _ rfl) rfl ?_)
  rw [if_neg (by simp)]
  refine wpAny_bind (PyProof.Rows.listUpdate_at (xs := #[]) (n := 0) (Heap.get?_push_size _ rfl) rfl ?_ (Nat.zero_le _) (by show (#[] ++ us.toArray).size ≤ sizeLine + 1; simp only [Array.size_append, List.size_toArray, List.length_nil]; omega))
  refine wpAny_pure ?_
  show wpAny (model prog w) A (do
      let b ← load s.heap.objs.size
      match b.data with
      | .seq ys _ => pure ys.toList
      | _ => unsupported "internal:collect") R E { s with heap := gathered s.heap us }
  refine wpAny_bind (wpAny_load (get?_update_seq (Heap.get?_push_size _ rfl) _) ?_)
  show wpAny _ _ (pure ((#[] : Array Value) ++ us.toArray).toList) R E _
  rw [show ((#[] : Array Value) ++ us.toArray).toList = us by simp]
  exact wpAny_pure q
theorem sorted_tupI {t : Addr} {us : List Value} {ns : List Int} {R : Value → Shared → Prop} (ht : IsTup s.heap t us.toArray) (hi : IntsAre us ns) (hz : us.length < 64)
    (q : ∀ (out : Array Value) (ms : List Int), IntsAre out.toList ms → ms.Perm ns → ms.Pairwise (· ≤ ·) → R (.ref (s.heap.objs.size + 1)) { s with heap := sortedAll s.heap us out }) :
    wpAny (model prog w) A (call (.builtin "sorted") [.ref t]) R E s := by
  refine Calls.call_function_entry PyProof.Rows.kind_sorted PyProof.Rows.plain_sorted PyProof.Rows.entry_sorted (PyProof.Rows.args_sorted1 _) ?_
  unfold Builtin.«sorted»
  refine wpAny_bind (m := checkCount "sorted" 1 1 _) (wpAny_pure ?_)
  have z1 : us.length ≤ sizeLine := by rw [sizeLine_eq]; omega
  refine wpAny_bind (gather_tup ht z1 ?_)
  refine wpAny_bind (wpAny_newList ?_ z1)
  have sz : (gathered s.heap us).objs.size = s.heap.objs.size + 1 := by unfold gathered; rw [Heap.size_update, size_push']
  have at1 : ((gathered s.heap us).push (seqObj "list" us.toArray 0)).get? (s.heap.objs.size + 1) = some (seqObj "list" us.toArray 0) := by
    rw [← sz]; exact Heap.get?_push_size _ rfl
  show wpAny _ _ _ _ _ { s with heap := (gathered s.heap us).push (seqObj "list" us.toArray 0) }
  rw [sz]
  refine wpAny_bind (wpAny_holding (wpAny_call_entry PyProof.Rows.slot_list_sort ⟨_, at1, rfl⟩ PyProof.Rows.entry_list_sort (PyProof.Rows.list_sort_tree at1 hi hz fun out ms a1 a2 a3 => ⟨_, rfl, ?_⟩) (PyProof.Rows.args_list_sort _)))
  exact wpAny_pure ⟨_, rfl, q out ms a1 a2 a3⟩
end
/-- sorted of a list or a tuple of ints -/
def rSortLT (K : PySem.W.Frag) : List V → Hp → VK → Prop := fun vs H Q => ∃ (a : Addr) (ns : List Int), vs = [V.ref a] ∧ (SqL K H a (ns.map V.int) ∨ SqT K H a (ns.map V.int)) ∧ ns.length < 64 ∧
  ∀ (ms : List Int) (p : Addr), ms.Perm ns → ms.Pairwise (· ≤ ·) → H p = none → Q (.ref p) (upd H p (.lst (ms.map V.int)))
theorem cr_sortLT {X : Cx} : CallR X (.builtin "sorted") (rSortLT X.K) := by
  intro pins s σ H vs us Q I r h
  obtain ⟨a, ns, rfl, hs | hs, hz, q⟩ := h
  · exact cr_sorted pins s σ H [.ref a] us Q I r ⟨a, ns, rfl, hs, hz, q⟩
  · obtain ⟨its, rv, ht, _⟩ := I.tuple hs
    rw [Vals.ref1 r]
    have hi := rv.ints
    refine sorted_tupI ht hi (by rw [hi.length]; exact hz) fun out ms h1 h2 h3 => ?_
    obtain ⟨ep, he⟩ := PyProof.Rows.sortedAll_at s.heap its out
    have hl : (ms.map V.int).length ≤ sizeLine := by rw [List.length_map, h2.length_eq, sizeLine_eq]; omega
    exact ⟨.ref _, upd H (s.heap.objs.size + 1) (.lst (ms.map V.int)), I.laid (t' := s.toks) (fun _ _ => PyProof.Rows.sortedAll_old) (Nat.le_succ _) ⟨hl, out.toList, ep, vals_of_ints h1, he⟩, rfl, q ms _ h2 h3 (I.hok.fresh (Nat.le_succ _))⟩
def fnSortLT : FN
  | [v], h => match (seqOf v h).bind intsOf with
    | some ns => if ns.length < 64 then new (.lst ((ns.mergeSort (fun a b => decide (a ≤ b))).map .int)) h else .stuck
    | none => .stuck
  | _, _ => .stuck
theorem j_sortLT {X : Cx} : JFn X (.builtin "sorted") fnSortLT := jfn cr_sortLT fun ρ h H τ W xs vs Q R r o => by
  unfold fnSortLT at o
  split at o
  · obtain ⟨v, rfl, q⟩ := one_inv r
    split at o
    · rename_i ns e
      split at o
      · rename_i hz
        obtain ⟨ys, e1, e2⟩ := Option.bind_eq_some_iff.mp e
        have e3 := intsOf_eq e2
        subst e3
        obtain ⟨p, zs, rfl, s, qq⟩ := seq_of R q e1
        rw [qq.ints] at s
        refine ⟨p, ns, rfl, s, hz, fun ms l hp hs hl => ?_⟩
        rw [sort_the hp hs]
        exact new_lst R (.of_ints _) o l hl
      · exact o.elim
    · exact o.elim
  · exact o.elim
theorem range_all {α : Type} : ∀ ys : List α, (List.range ys.length).filterMap (fun k => ys[k]?) = ys := fun ys => by
  have key : ∀ (n : Nat), n ≤ ys.length → (List.range n).filterMap (fun k => ys[k]?) = ys.take n := by
    intro n
    induction n with
    | zero => intro _; simp
    | succ n ih =>
      intro h
      rw [List.range_succ, List.filterMap_append, ih (by omega), List.take_succ]
      congr 1
  rw [key _ (Nat.le_refl _), List.take_length]
theorem fm_congr {α β : Type} {f g : α → Option β} : ∀ {l : List α}, (∀ x ∈ l, f x = g x) → l.filterMap f = l.filterMap g
  | [], _ => rfl
  | x :: l, h => by rw [List.filterMap_cons, List.filterMap_cons, h x (by simp), fm_congr fun y hy => h y (List.mem_cons_of_mem _ hy)]
theorem pick_rev (xs : Array Value) : ((List.range xs.size).filterMap fun (k : Nat) => xs[((xs.size : Int) - 1 + (k : Int) * (-1)).toNat]?).toArray = xs.toList.reverse.toArray := by
  congr 1
  have e := range_all xs.toList.reverse
  rw [List.length_reverse, Array.length_toList] at e
  rw [← e]
  refine fm_congr fun k hk => ?_
  have hk' : k < xs.size := List.mem_range.mp hk
  have e2 : ((xs.size : Int) - 1 + (k : Int) * (-1)).toNat = xs.size - 1 - k := by omega
  rw [e2, List.getElem?_reverse (by simpa using hk'), Array.length_toList, Array.getElem?_toList]
section
variable {prog : Program} {w : World} {A : Around} {E : Value → Shared → Prop} {s : Shared}
theorem adjust_rev (n : Nat) : Builtin.Slice.sliceAdjust none none (-1) (n : Int) = ((n : Int) - 1, -1) := by
  unfold Builtin.Slice.sliceAdjust
  have h1 : ((-1 : Int) < 0) := by omega
  simp only [h1, if_true]
theorem places_rev (n : Nat) : Builtin.Slice.slicePlaces ((n : Int) - 1) (-1) (-1) = n := by
  unfold Builtin.Slice.slicePlaces
  have h1 : ¬ ((-1 : Int) > 0) := by omega
  have e : ((n : Int) - 1 - -1 - 1) / - -1 = (n : Int) - 1 := by rw [show (- -1 : Int) = 1 from rfl, Int.ediv_one]; omega
  simp only [h1, if_false]
  rw [e]
  split <;> omega
theorem applied_rev {sl : Addr} {u : Tok} {n : Nat} {R : Int × Int × Nat → Shared → Prop} (hs : s.heap.IsSliceOf sl .none .none (.int (-1) u)) (q : R ((n : Int) - 1, -1, n) s) :
    wpAny (model prog w) A (Builtin.Slice.sliceApplied (.ref sl) (pure (n : Int))) R E s := by
  obtain ⟨os, hos, hcs, hds⟩ := id hs
  unfold Builtin.Slice.sliceApplied Builtin.Slice.sliceFields
  refine wpAny_bind (wpAny_bind (wpAny_field hos hds (x := .none) rfl (wpAny_bind (wpAny_field hos hds (x := .none) rfl (wpAny_bind (wpAny_field hos hds (x := .int (-1) u) rfl (wpAny_pure ?_)))))))
  refine wpAny_bind (PyProof.Rows.slicePart_int ?_)
  show wpAny _ _ (if ((-1 : Int) == 0) = true then _ else _) _ _ s
  rw [if_neg (by decide)]
  refine wpAny_bind (PyProof.Rows.slicePart_none (wpAny_bind (PyProof.Rows.slicePart_none (wpAny_bind (wpAny_pure ?_)))))
  show wpAny _ _ (match Builtin.Slice.sliceAdjust none none (-1) (n : Int) with | (lo, hi) => pure (lo, (-1 : Int), Builtin.Slice.slicePlaces lo hi (-1))) _ _ s
  rw [adjust_rev]
  show wpAny _ _ (pure ((n : Int) - 1, (-1 : Int), Builtin.Slice.slicePlaces ((n : Int) - 1) (-1) (-1))) _ _ s
  rw [places_rev]
  exact wpAny_pure q
theorem item_tuple_rev {t sl : Addr} {its : Array Value} {u : Tok} {R : Value → Shared → Prop} (ht : IsTup s.heap t its) (hs : s.heap.IsSliceOf sl .none .none (.int (-1) u)) (hz : its.size ≤ sizeLine)
    (q : R (.ref s.heap.objs.size) { s with heap := s.heap.push { cls := .type "tuple", data := .seq its.toList.reverse.toArray } }) : wpAny (model prog w) A (getItem (.ref t) (.ref sl)) R E s := by
  have hd : sizeOk (.seq its.toList.reverse.toArray) := by
    show its.toList.reverse.toArray.size ≤ sizeLine
    rw [List.size_toArray, List.length_reverse, Array.length_toList]; exact hz
  obtain ⟨os, hos, hcs, hds⟩ := id hs
  have hT : s.TypeIs (.ref sl) "slice" := ⟨os, hos, hcs⟩
  unfold getItem
  try with_reducible refine wpAny_holding ?_
  first | refine wpAny_bind (wpAny_pure ?_) | skip
  refine wpAny_bind (wpAny_sequenceKey ht.typeIs (by decide) ?_)
  refine wpAny_bind (wpAny_callSpecial?_slot (name := Str.ofString "__getitem__") ht.typeIs PyProof.Rows.slot_tuple_getitem (wpAny_call_entry PyProof.Rows.slot_tuple_getitem ht.typeIs PyProof.Rows.entry_tuple_getitem ?_ (PyProof.Rows.args_tuple_getitem _ _)))
  show wpAny _ _ (Builtin.Tuple.tupleItemsOf (.ref t) >>= _) _ _ s
  refine wpAny_bind (PyProof.Rows.tupleItemsOf_ ht ?_)
  refine wpAny_bind (wpAny_typeOf hT ?_)
  rw [if_pos (by decide)]
  refine wpAny_bind (applied_rev hs ?_)
  have no : ¬ (((its.size : Int) - 1 == 0 && (-1 : Int) == 1 && its.size == its.size) = true) := by
    have : ((-1 : Int) == 1) = false := by decide
    rw [this]; simp
  show wpAny _ _ (if ((its.size : Int) - 1 == 0 && (-1 : Int) == 1 && its.size == its.size) = true then _ else _) _ _ s
  rw [if_neg no, pick_rev its]
  first
    | exact wpAny_bind (m := Builtin.Tuple.tupleExact _) (wpAny_newObj_type (wpAny_pure ⟨_, rfl, wpAny_pure q⟩) hd)
    | exact wpAny_bind (m := Builtin.Tuple.tupleExact _) (wpAny_newObj_type (wpAny_bind (wpAny_pure (wpAny_pure ⟨_, rfl, wpAny_pure q⟩))) hd)
    | exact wpAny_bind (wpAny_bind (m := Builtin.Tuple.tupleExact _) (wpAny_newObj_type (wpAny_pure (wpAny_pure ⟨_, rfl, wpAny_pure q⟩)) hd))
    | exact wpAny_bind (wpAny_bind (m := Builtin.Tuple.tupleExact _) (wpAny_newObj_type (wpAny_pure ⟨_, rfl, wpAny_pure q⟩) hd))
end
def tRevT (K : PySem.W.Frag) (te : TE) : TE := fun σ H Q => te σ H fun x H1 => ∃ a xs, x = .ref a ∧ SqT K H1 a xs ∧ ∀ p, H1 p = none → Q (.ref p) (upd H1 p (.tup xs.reverse))
theorem pe_revT {X : Cx} {e : Expr} {te : TE} {k : Nat} {p1 p2 p3 pos : Pos} (he : PE X e te) : PE X (.Subscript e (.Slice none none (some (.UnaryOp .USub (.Constant (.int 1) k p1) p2)) p3) pos) (tRevT X.K te) := by
  refine ⟨fun pins s σ H Q I h => ?_⟩
  refine Subscript_ (thn (he.run pins s σ H _ I h) fun v s1 ⟨x, H1, I1, r1, q1⟩ => ?_)
  obtain ⟨a, xs, ex, hx, q⟩ := q1
  subst ex
  cases r1
  have st : PO X (some (.UnaryOp .USub (.Constant (.int 1) k p1) p2)) (tPart (tUn (rU fun i => .int (-i)) (tC (.int 1)))) := po_some (pe_un un_neg pe_int)
  refine wpAny_Slice (thn (po_none.run pins s1 σ H1 (fun o G => o = none ∧ G = H1) I1 ⟨rfl, rfl⟩) fun vl s2 ⟨l, H2, I2, pl, el, e2⟩ => ?_)
  subst el e2
  refine thn (po_none.run pins s2 σ H2 (fun o G => o = none ∧ G = H2) I2 ⟨rfl, rfl⟩) fun vu s3 ⟨u, H3, I3, pu, eu, e3⟩ => ?_
  subst eu e3
  refine thn (st.run pins s3 σ H3 (fun o G => o = some (-1) ∧ G = H3) I3 ⟨1, rfl, -1, rfl, rfl, rfl⟩) fun vs s4 ⟨o, H4, I4, ps, eo, e4⟩ => ?_
  subst eo e4
  cases pl
  cases pu
  obtain ⟨tk, rfl⟩ : ∃ tk, vs = .int (-1) tk := by cases ps; exact ⟨_, rfl⟩
  have I5 : L2.Inv X pins σ H4 { s4 with heap := s4.heap.push { cls := .type "slice", data := .fields #[.none, .none, .int (-1) tk] } } := I4.kept (t' := s4.toks) fun b ob q => Heap.get?_push_of_some _ q
  obtain ⟨its, r, ht, hz⟩ := I5.tuple hx
  have hl := r.length
  show wpAny (model X.prog X.w) X.A (subscriptTail e (.Slice none none (some (.UnaryOp .USub (.Constant (.int 1) k p1) p2)) p3) (.ref a) (.ref s4.heap.objs.size)) (EP X pins σ Q) X.xe { s4 with heap := s4.heap.push { cls := .type "slice", data := .fields #[.none, .none, .int (-1) tk] } }
  refine tail_any (ops := [.ref a, .ref s4.heap.objs.size]) ht.typeIs PyProof.Rows.slot_tuple_getitem.lookup ?_ (by with_unfolding_all rfl)
  refine item_tuple_rev ht (Heap.IsSliceOf.new _ _ _ _) (by rw [List.size_toArray]; omega) ?_
  refine ⟨.ref _, _, I5.laid (t' := s4.toks) (o := .tup xs.reverse) (fun b ob q => Heap.get?_push_of_some _ q) (Nat.le_refl _) ?_, rfl, q _ (I5.hok.fresh (Nat.le_refl _))⟩
  exact ⟨by rw [List.length_reverse]; exact hz, _, r.reverse, IsTup.new _ _⟩
/-- xs[::-1] of a list or a tuple -/
def fRevT : F1 := fun v h => match v with
  | .tup xs => .ok (.tup xs.reverse) h
  | _ => .stuck
theorem je_revT {X : Cx} {W : WX} {e : Expr} {m : AE} {k : Nat} {pos p1 p2 p3 : Pos} (he : JE X W e m) : JE X W (.Subscript e (.Slice none none (some (.UnaryOp .USub (.Constant (.int 1) k p1) p2)) p3) pos) (aUn fRevT m) :=
  ⟨PEmono (pe_revT he.pe) fun τ H Q ⟨ρ, h, σ, R, S, o⟩ => ⟨ρ, h, σ, R, S, (Out.bind (R := RV (cxKW X)) o).mono fun x H1 ⟨ρ1, v, h1, e1, R1, q1, o1⟩ => by
    cases v with
    | tup xs =>
      obtain ⟨p, vs, rfl, f, r⟩ := q1.tup_inv
      exact ⟨p, vs, rfl, f.sq, new_tup R1 r.reverse o1⟩
    | _ => exact o1.elim⟩⟩
end AB

/-! MX: heaps with new objects behind; sorting; permutations -/
namespace AB
open PySem PySem.Spec
open PyProof.Rows hiding St
open L2
theorem g0 {h j : AH} {a : AO} {n : Nat} (e : h.length = n) : (h ++ a :: j)[n]? = some a := by subst e; simp
theorem g1 {h j : AH} {a b : AO} {n : Nat} (e : h.length = n) : (h ++ a :: b :: j)[n + 1]? = some b := by subst e; simp
theorem g2 {h j : AH} {a b c : AO} {n : Nat} (e : h.length = n) : (h ++ a :: b :: c :: j)[n + 2]? = some c := by subst e; simp
theorem p0 {h j : AH} {a x : AO} {n : Nat} (e : h.length = n) : (h ++ a :: j).set n x = h ++ x :: j := by subst e; simp
theorem p1 {h j : AH} {a b x : AO} {n : Nat} (e : h.length = n) : (h ++ a :: b :: j).set (n + 1) x = h ++ a :: x :: j := by subst e; simp
theorem p2 {h j : AH} {a b c x : AO} {n : Nat} (e : h.length = n) : (h ++ a :: b :: c :: j).set (n + 2) x = h ++ a :: b :: x :: j := by subst e; simp
theorem isL0 {h j : AH} {xs : List PV} {n : Nat} (e : h.length = n) : isL (.loc n) (h ++ .lst xs :: j) = true := isL_loc (g0 e)
theorem isL1 {h j : AH} {a : AO} {xs : List PV} {n : Nat} (e : h.length = n) : isL (.loc (n + 1)) (h ++ a :: .lst xs :: j) = true := isL_loc (g1 e)
theorem isL2 {h j : AH} {a b : AO} {xs : List PV} {n : Nat} (e : h.length = n) : isL (.loc (n + 2)) (h ++ a :: b :: .lst xs :: j) = true := isL_loc (g2 e)
theorem ap0 {h j : AH} {xs : List PV} {y : PV} {n : Nat} (e : h.length = n) (hz : xs.length < 1000000) : mAppend (.loc n) [y] (h ++ .lst xs :: j) = .ok .non (h ++ .lst (xs ++ [y]) :: j) := by rw [mAppend_ok (g0 e) hz, p0 e]
theorem ap1 {h j : AH} {a : AO} {xs : List PV} {y : PV} {n : Nat} (e : h.length = n) (hz : xs.length < 1000000) : mAppend (.loc (n + 1)) [y] (h ++ a :: .lst xs :: j) = .ok .non (h ++ a :: .lst (xs ++ [y]) :: j) := by rw [mAppend_ok (g1 e) hz, p1 e]
theorem ap2 {h j : AH} {a b : AO} {xs : List PV} {y : PV} {n : Nat} (e : h.length = n) (hz : xs.length < 1000000) : mAppend (.loc (n + 2)) [y] (h ++ a :: b :: .lst xs :: j) = .ok .non (h ++ a :: b :: .lst (xs ++ [y]) :: j) := by rw [mAppend_ok (g2 e) hz, p2 e]
theorem len0 {h j : AH} {xs : List PV} {n : Nat} (e : h.length = n) : fnLen [.loc n] (h ++ .lst xs :: j) = .ok (.int xs.length) (h ++ .lst xs :: j) := fnLen_seq (seqOf_loc (g0 e))
theorem len1 {h j : AH} {a : AO} {xs : List PV} {n : Nat} (e : h.length = n) : fnLen [.loc (n + 1)] (h ++ a :: .lst xs :: j) = .ok (.int xs.length) (h ++ a :: .lst xs :: j) := fnLen_seq (seqOf_loc (g1 e))
theorem pop0 {h j : AH} {xs : List PV} {y : PV} {n : Nat} (e : h.length = n) : mPop (.loc n) [] (h ++ .lst (xs ++ [y]) :: j) = .ok y (h ++ .lst xs :: j) := by rw [mPop_last (g0 e), p0 e]
theorem pop1 {h j : AH} {a : AO} {xs : List PV} {y : PV} {n : Nat} (e : h.length = n) : mPop (.loc (n + 1)) [] (h ++ a :: .lst (xs ++ [y]) :: j) = .ok y (h ++ a :: .lst xs :: j) := by rw [mPop_last (g1 e), p1 e]
theorem popAt0 {h j : AH} {xs : List PV} {y : PV} {n k : Nat} (e : h.length = n) (hk : xs[k]? = some y) (hz : xs.length ≤ 1000000) : mPop (.loc n) [.int k] (h ++ .lst xs :: j) = .ok y (h ++ .lst (xs.eraseIdx k) :: j) := by rw [mPop_at (g0 e) hk hz, p0 e]
theorem erase_perm {α : Type} : ∀ {xs : List α} {k : Nat} {y : α}, xs[k]? = some y → (y :: xs.eraseIdx k).Perm xs
  | [], _, _, h => by cases h
  | x :: xs, 0, y, h => by cases h; exact .refl _
  | x :: xs, k + 1, y, h => by
    have q := erase_perm (xs := xs) (k := k) (y := y) h
    exact (List.Perm.swap x y _).trans (q.cons x)
theorem fnList_s {v : PV} {xs : List PV} {h : AH} (e : seqOf v h = some xs) : fnList [v] h = .ok (.loc h.length) (h ++ [.lst xs]) := by
  unfold fnList; simp only [e]; rfl
theorem snoc_app (h : AH) (a b : AO) : h ++ [a] ++ [b] = h ++ a :: [b] := by simp
/-- naturals sorted -/
def srtN (ks : List Nat) : List Nat := ks.mergeSort fun a b => decide (a ≤ b)
theorem srtN_perm (ks : List Nat) : (srtN ks).Perm ks := List.mergeSort_perm _ _
theorem srtN_le (ks : List Nat) : (srtN ks).Pairwise (· ≤ ·) := by
  have := List.pairwise_mergeSort (le := fun (a b : Nat) => decide (a ≤ b)) (fun a b c => by simp; omega) (fun a b => by simp; omega) ks
  exact this.imp (fun h => by simpa using h)
theorem srtN_of {ks js : List Nat} (p : js.Perm ks) (s : js.Pairwise (· ≤ ·)) : srtN ks = js :=
  List.Perm.eq_of_pairwise (le := fun (a b : Nat) => a ≤ b) (fun a b _ _ h1 h2 => by omega) (srtN_le ks) s ((srtN_perm ks).trans p.symm)
theorem sort_ints (ks : List Nat) : ((ks.map fun n : Nat => (n : Int)).mergeSort fun a b => decide (a ≤ b)) = (srtN ks).map fun n : Nat => (n : Int) := by
  symm
  refine sort_the ((srtN_perm ks).map _) ?_
  rw [List.pairwise_map]
  exact (srtN_le ks).imp fun h => by omega
theorem fnSortLT_n {v : PV} {ks : List Nat} {h : AH} (e : seqOf v h = some (ks.map nI)) (hz : ks.length < 64) : fnSortLT [v] h = .ok (.loc h.length) (h ++ [.lst ((srtN ks).map nI)]) := by
  unfold fnSortLT
  rw [nI_map] at e
  simp only [e, Option.bind_some, intsOf_map]
  rw [if_pos (by simpa using hz), sort_ints, ← nI_map]; rfl
/-- a list made item by item, the tape moving -/
theorem aLc_tapeI {m : AIt} {a : AI} {vs : List Nat} {g : AG} {e : AE} {σ : ASt} {h h1 : AH} (em : m σ h = .ok a h1) (xs : List PV) (I : List PV → AH → Prop) (hn : xs.length ≤ a.n) (hz : xs.length < 1000000)
    (hx : ∀ i (g : AH), i ≤ xs.length → a.nxt i g = some xs[i]?) (h0 : I [] h1) (hl : ∀ acc g, I acc g → g.length = h1.length)
    (step : ∀ i x, xs[i]? = some x → ∀ (acc : List PV) (h2 : AH), I acc h2 → acc.length = i → ∃ σ1 y h3, g x (wipeA σ vs) (h2 ++ [.lst acc]) = some (σ1, h2 ++ [.lst acc]) ∧ e σ1 (h2 ++ [.lst acc]) = .ok y (h3 ++ [.lst acc]) ∧ I (acc ++ [y]) h3) :
    ∃ acc h3, aLc m vs g tYes' e σ h = .ok (.loc h1.length) (h3 ++ [.lst acc]) ∧ I acc h3 ∧ acc.length = xs.length := by
  unfold aLc
  rw [em, Res.bind_ok]
  have key : ∀ (k n i : Nat) (acc : List PV) (h2 : AH), k = xs.length - i → i ≤ xs.length → xs.length ≤ n + i → acc.length = i → I acc h2 →
      ∃ acc' h3, lcA a vs g tYes' e σ h1.length n i (h2 ++ [.lst acc]) = .ok (.loc h1.length) (h3 ++ [.lst acc']) ∧ I acc' h3 ∧ acc'.length = xs.length := by
    intro k
    induction k with
    | zero =>
      intro n i acc h2 hk hi hni ha hI
      have ei : i = xs.length := by omega
      refine ⟨acc, h2, ?_, hI, by omega⟩
      unfold lcA
      rw [hx i _ hi, List.getElem?_eq_none (by omega)]
    | succ k ih =>
      intro n i acc h2 hk hi hni ha hI
      have hlt : i < xs.length := by omega
      have ex : xs[i]? = some xs[i] := by simp [hlt]
      obtain ⟨σ1, y, h3, e1, e3, hI3⟩ := step i xs[i] ex acc h2 hI ha
      unfold lcA
      rw [hx i _ hi, ex]
      cases n with
      | zero => omega
      | succ n =>
        simp only [e1, tYes'_eq, e3]
        have l3 := hl _ _ hI3
        have en : (h3 ++ [AO.lst acc])[h1.length]? = some (.lst acc) := by rw [← l3]; simp
        simp only [en]
        rw [if_pos (size_lt (by omega))]
        have es : (h3 ++ [AO.lst acc]).set h1.length (.lst (acc ++ [y])) = h3 ++ [.lst (acc ++ [y])] := by rw [← l3]; simp
        rw [es]
        exact ih n (i + 1) (acc ++ [y]) h3 (by omega) (by omega) (by omega) (by simp; omega) hI3
  exact key xs.length a.n 0 [] h1 rfl (Nat.zero_le _) (by omega) rfl h0
theorem perm_inv {α β : Type} {f : α → β} {g : β → α} (gf : ∀ x, g (f x) = x) {ys : List β} {xs : List α} (p : ys.Perm (xs.map f)) : ∃ zs : List α, ys = zs.map f ∧ zs.Perm xs := by
  refine ⟨ys.map g, ?_, ?_⟩
  · rw [List.map_map]
    have : ∀ y ∈ ys, (f ∘ g) y = y := fun y hy => by
      obtain ⟨x, _, rfl⟩ := List.mem_map.mp (p.mem_iff.mp hy)
      show f (g (f x)) = f x
      rw [gf]
    conv => lhs; rw [← List.map_id ys]
    exact List.map_congr_left fun y hy => (this y hy).symm
  · have q := p.map g
    rw [List.map_map] at q
    have : (g ∘ f) = id := funext gf
    rwa [this, List.map_id] at q
theorem getD_range {α : Type} (xs : List α) (d : α) : (List.range xs.length).map (fun k => xs.getD k d) = xs := by
  refine List.ext_getElem (by simp) fun i h1 h2 => ?_
  simp [List.getD_eq_getElem?_getD, h2]
theorem itRg_nxt (m i : Nat) (h : AH) : (itRg 0 m).nxt i h = some ((List.range m).map nI)[i]? := by
  show (if i < m then some (some (PV.int (0 + (i : Nat)))) else some none) = _
  by_cases c : i < m
  · rw [if_pos c]; simp [c]
  · rw [if_neg c]; simp [c]
def unP : PV → Nat × Nat
  | .tup [.int a, .int b] => (a.toNat, b.toNat)
  | _ => (0, 0)
theorem unP_pair (e : Nat × Nat) : unP (pairV e) = e := rfl
theorem low_pairs (k : Nat) (es : List (Nat × Nat)) : PV.lows k (es.map pairV) = true := low_all fun x hx => by
  obtain ⟨s, _, rfl⟩ := List.mem_map.mp hx; rfl
theorem low_net (k : Nat) (ns : List Str) (L : List (Str × Nat × Nat)) : (netV ns L).low k = true := by
  have a : PV.lows k (ns.map PV.str) = true := low_all fun x hx => by obtain ⟨s, _, rfl⟩ := List.mem_map.mp hx; rfl
  have b : PV.lows k (L.map lineV) = true := low_all fun x hx => by obtain ⟨s, _, rfl⟩ := List.mem_map.mp hx; rfl
  simp only [netV, PV.low, PV.lows, a, b, Bool.true_and, Bool.and_true]
end AB

/-! AB14: walks over dicts that stand under a lock -/
namespace AB
open PySem PySem.Spec
open PyProof.Rows hiding St
open L2
section
variable {K : KW} {ρ : List Addr} {H : Hp} {p : Addr} {u : HO}
theorem RV.wr {x : PV} {v : V} (r : RV K ρ H x v) (ep : p ∈ ρ) : RV K ρ (upd H p u) x v := by
  have ne : ∀ q, q ∉ ρ → q ≠ p := fun q hq z => hq (z ▸ ep)
  induction r with
  | non => exact .non
  | bl b => exact .bl b
  | int i => exact .int i
  | str x => exact .str x
  | tup vs f n e ih =>
    refine .tup vs ?_ n ih
    rcases f with ⟨r, nq⟩ | c
    · refine .inl ⟨?_, nq⟩
      rcases r with r | ⟨o, r⟩
      · exact .inl (by rw [upd_ne (ne _ nq)]; exact r)
      · exact .inr ⟨o, by rw [upd_ne (ne _ nq)]; exact r⟩
    · exact .inr c
  | lst vs f n e ih => exact .lst vs ⟨by rw [upd_ne (ne _ f.2)]; exact f.1, f.2⟩ n ih
  | ro vs f n e ih =>
    refine .ro vs ?_ n ih
    rcases f with ⟨r, nq⟩ | c
    · refine .inl ⟨?_, nq⟩
      rcases r with r | ⟨o, r⟩
      · exact .inl (by rw [upd_ne (ne _ nq)]; exact r)
      · exact .inr ⟨o, by rw [upd_ne (ne _ nq)]; exact r⟩
    · exact .inr c
  | loc e => exact .loc e
  | raw v => exact .raw v
theorem RVs.wr {xs : List PV} {vs : List V} (r : RVs K ρ H xs vs) (ep : p ∈ ρ) : RVs K ρ (upd H p u) xs vs := ⟨r.len, fun i x v e1 e2 => (r.at_ i x v e1 e2).wr ep⟩
theorem RKV.wr {κ : Type} {xs : List (κ × PV)} {vs : List (κ × V)} (r : RKV K ρ H xs vs) (ep : p ∈ ρ) : RKV K ρ (upd H p u) xs vs := ⟨r.keys, r.vals.wr ep⟩
theorem RO.wr {a : Addr} {o : AO} (r : RO K ρ H a o) (ep : p ∈ ρ) (ne : a ≠ p) : RO K ρ (upd H p u) a o := by
  cases o with
  | lst xs => obtain ⟨vs, e1, q⟩ := r; exact ⟨vs, by rw [upd_ne ne]; exact e1, q.wr ep⟩
  | dK xs => obtain ⟨vs, e1, q⟩ := r; exact ⟨vs, by rw [upd_ne ne]; exact e1, q.wr ep⟩
  | dT xs => obtain ⟨vs, e1, q⟩ := r; exact ⟨vs, by rw [upd_ne ne]; exact e1, q.wr ep⟩
  | fK xs => obtain ⟨ob, vs, e1, q⟩ := r; exact ⟨ob, vs, by rw [upd_ne ne]; exact e1, q.wr ep⟩
theorem RS.wr {σ : ASt} {τ : St} (r : RS K ρ H σ τ) (ep : p ∈ ρ) : RS K ρ (upd H p u) σ τ := ⟨r.len, fun i x e => let ⟨v, e1, q⟩ := r.at_ i x e; ⟨v, e1, q.wr ep⟩⟩
/-- an object is written over, locked or not -/
theorem Rep.wr {h : AH} {n : Nat} {o : AO} (R : Rep K ρ h H) (e : ρ[n]? = some p) (r : RO K ρ (upd H p u) p o) : Rep K ρ (h.set n o) (upd H p u) := by
  have ep := List.mem_of_getElem? e
  refine ⟨R.nd, by simp [R.len], fun m b w e1 e2 => ?_⟩
  by_cases hm : n = m
  · subst hm
    rw [e] at e1; cases e1
    rw [List.getElem?_set_self (by rw [← R.len]; exact (List.getElem?_eq_some_iff.mp e).1)] at e2
    cases e2; exact r
  · rw [List.getElem?_set_ne hm] at e2
    refine (R.obj m b w e1 e2).wr ep fun z => hm ?_
    subst z
    exact (List.getElem?_inj (List.getElem?_eq_some_iff.mp e).1 R.nd).mp (e.trans e1.symm)
end
def keyPV : Key → PV
  | .inl i => .int i
  | .inr x => .str x
theorem keyPV_rv {K : KW} {ρ : List Addr} {H : Hp} (k : Key) : RV K ρ H (keyPV k) (kV k) := by
  cases k with
  | inl i => exact .int i
  | inr x => exact .str x
/-- the keys of a locked dict -/
def aItK (m : AE) : AIt := fun σ h => (m σ h).bind fun v h1 => match v with
  | .loc n => match h1[n]? with
    | some (.fK kvs) => .ok (itVals (kvs.map fun kv => keyPV kv.1)) h1
    | _ => .stuck
  | _ => .stuck
section
variable {X : Cx} {W : WX}
theorem ji_keys {tg e : Expr} {m : AE} (he : JE X W e m) : JI X W tg e (aItK m) :=
  ⟨PImono (pi_keys he.pe) fun τ H Rk ⟨ρ, h, σ, R, S, o⟩ => ⟨ρ, h, σ, R, S, (Out.bind (R := RV (cxKW X)) o).mono fun x H1 ⟨ρ1, v, h1, e1, R1, q1, o1⟩ => by
    split at o1
    · rename_i n
      split at o1
      · rename_i kvs eh
        obtain ⟨p, rfl, ep⟩ := q1.loc_inv
        obtain ⟨ob, vs, eH, q⟩ := R1.obj n p _ ep eh
        refine ⟨p, ob, rfl, .inl ⟨vs, eH, Out.done o1 R1 fun i ρ2 h2 H2 e2 R2 => ?_⟩⟩
        have f2 := e2.frz p ob _ eH
        have ek : ∀ j : Nat, (kvs.map fun kv => keyPV kv.1)[j]? = (vs[j]?).map fun kv => keyPV kv.1 := fun j => by
          have h1 : (kvs.map (·.1))[j]? = (vs.map (·.1))[j]? := by rw [q.keys]
          rw [List.getElem?_map, List.getElem?_map] at h1
          rw [List.getElem?_map]
          cases c : kvs[j]? <;> cases d : vs[j]? <;> rw [c, d] at h1 <;> simp at h1 ⊢
          rw [h1]
        show match some ((kvs.map fun kv => keyPV kv.1)[i]?) with | none => True | some none => _ | some (some x) => _
        rw [ek]
        cases c : vs[i]? with
        | none => exact ⟨f2, by have := List.getElem?_eq_none_iff.mp c; omega⟩
        | some kv =>
          refine ⟨⟨f2, (List.getElem?_eq_some_iff.mp c).1⟩, ?_⟩
          rintro w H3 ⟨rfl, k, y, ey, rfl⟩
          rw [c] at ey; cases ey
          exact ⟨.refl, R2, keyPV_rv k⟩
      · exact o1.elim
    · exact o1.elim⟩⟩
/-- behind the walk the dict is open again -/
def unl (n : Nat) (kvs : List (Key × PV)) : SRes → SRes
  | .fin f σ h => if h[n]? = some (.fK kvs) then .fin f σ (h.set n (.dK kvs)) else .stuck
  | _ => .stuck
def sForK (i : Nat) (g : AG) (body : AS) : AS := fun σ h => match σ[i]? with
  | some (some (.loc n)) => match h[n]? with
    | some (.dK kvs) => unl n kvs (sFor (aItK (aVar i)) g body σ (h.set n (.fK kvs)))
    | _ => .stuck
  | _ => .stuck
theorem js_lock {st : Stmt} {i : Nat} {g : AG} {body : AS} (hj : JS X W st (sFor (aItK (aVar i)) g body)) : JS X W st (sForK i g body) :=
  ⟨PSmono (ps_lock hj.ps) fun D τ H ⟨ρ, h, σ, R, S, o⟩ => by
    unfold sForK at o
    split at o
    · rename_i n es
      split at o
      · rename_i kvs eh
        obtain ⟨v, _, rv⟩ := S.at_ i _ es
        obtain ⟨p, rfl, ep⟩ := rv.loc_inv
        obtain ⟨vs, eH, q⟩ := R.obj n p _ ep eh
        refine ⟨p, .dK vs, eH, trivial, fun od => ?_⟩
        have x : Ext ρ H ρ (upd H p (.frz od (.dK vs))) := .write ep (nfK eH)
        refine ⟨ρ, h.set n (.fK kvs), σ, R.write (u := .fK kvs) ep (nfK eH) ⟨od, vs, upd_same, q.mono x⟩, S.mono x, ?_⟩
        generalize sFor (aItK (aVar i)) g body σ (h.set n (.fK kvs)) = r at o
        have pm := List.mem_of_getElem? ep
        have ext : ∀ {ρ' H'}, Ext ρ (upd H p (.frz od (.dK vs))) ρ' H' → Ext ρ H ρ' (upd H' p (.dK vs)) := fun {ρ' H'} e => ⟨e.pre, fun y o e1 nq => by
            have ne : y ≠ p := fun z => nq (z ▸ pm)
            rw [upd_ne ne]
            exact e.old y o (by rw [upd_ne ne]; exact e1) nq, fun y ob w e1 => by
            have ne : y ≠ p := fun z => by subst z; rw [eH] at e1; cases e1
            rw [upd_ne ne]
            exact e.frz y ob w (by rw [upd_ne ne]; exact e1)⟩
        have rep : ∀ {ρ' H' h2}, Ext ρ (upd H p (.frz od (.dK vs))) ρ' H' → Rep (cxKW X) ρ' h2 H' → h2[n]? = some (.fK kvs) → Rep (cxKW X) ρ' (h2.set n (.dK kvs)) (upd H' p (.dK vs)) := fun {ρ' H' h2} e R2 e2 => by
          have ep2 := e.get ep
          obtain ⟨ob, ws, eW, q2⟩ := R2.obj n p _ ep2 e2
          have := e.frz p od _ upd_same
          rw [this] at eW
          cases eW
          exact R2.wr ep2 ⟨vs, upd_same, q2.wr (List.mem_of_getElem? ep2)⟩
        cases r with
        | fin f σ2 h2 =>
          unfold unl at o
          dsimp only at o
          split at o
          · rename_i c
            cases f with
            | nx => exact fun ρ' τ' H' e R2 S2 => ⟨e.frz p od _ upd_same, o ρ' τ' _ (ext e) (rep e R2 c) (S2.wr (List.mem_of_getElem? (e.get ep)))⟩
            | bk => exact fun ρ' τ' H' e R2 S2 => ⟨e.frz p od _ upd_same, o ρ' τ' _ (ext e) (rep e R2 c) (S2.wr (List.mem_of_getElem? (e.get ep)))⟩
            | ct => exact fun ρ' τ' H' e R2 S2 => ⟨e.frz p od _ upd_same, o ρ' τ' _ (ext e) (rep e R2 c) (S2.wr (List.mem_of_getElem? (e.get ep)))⟩
            | rt v => exact fun ρ' x' H' e R2 r2 => ⟨e.frz p od _ upd_same, o ρ' x' _ (ext e) (rep e R2 c) (r2.wr (List.mem_of_getElem? (e.get ep)))⟩
          · exact o.elim
        | exc c fs σ2 h2 => exact o.elim
        | stuck => exact o.elim
      · exact o.elim
    · exact o.elim⟩
/-- d[k] of a locked dict -/
def fDgetF : F2
  | .loc n, k, h => match h[n]?, keyP k with
    | some (.fK kvs), some key => match valP kvs key with
      | some v => .ok v h
      | none => .stuck
    | _, _ => .stuck
  | _, _, _ => .stuck
theorem je_dgetF {o i : Expr} {mo mi : AE} {pos : Pos} (hu : X.A.units + 1 < cLine) (ho : JE X W o mo) (hi : JE X W i mi) (hs : NoSl i := by exact fun _ _ => rfl) : JE X W (.Subscript o i pos) (aOp fDgetF mo mi) :=
  ⟨PEmono (pe_dget hu ho.pe hi.pe hs) fun τ H Q ⟨ρ, h, σ, R, S, o⟩ => ⟨ρ, h, σ, R, S, (Out.bind (R := RV (cxKW X)) o).mono fun x H1 ⟨ρ1, v, h1, e1, R1, q1, o1⟩ => ⟨ρ1, h1, σ, R1, S.mono e1, (Out.bind (R := RV (cxKW X)) o1).mono fun y H2 ⟨ρ2, u, h2, e2, R2, q2, o2⟩ => by
    unfold fDgetF at o2
    split at o2
    · rename_i n
      split at o2
      · rename_i kvs key eh ek
        split at o2
        · rename_i v ev
          obtain ⟨p, rfl, ep⟩ := (q1.mono e2).loc_inv
          obtain ⟨ob, vs, eH, r⟩ := R2.obj _ p _ ep eh
          have ey := keyP_of ek q2
          subst ey
          rcases r.val key with ⟨z, _⟩ | ⟨x', v', z1, z2, z3⟩
          · rw [ev] at z; cases z
          · rw [ev] at z1; cases z1
            exact ⟨p, v', rfl, by rw [← z2]; exact .inl ⟨vs, key, .inr ⟨ob, eH⟩, rfl, rfl⟩, Out.done o2 R2 z3⟩
        · exact o2.elim
      · exact o2.elim
    · exact o2.elim⟩⟩⟩
end
end AB

/-! AB15: comprehensions with two fors -/
namespace AB
open PySem PySem.Spec
open PyProof.Rows hiding St
open L2
section
variable {X : Cx} {W : WX} {K : KW}
/-- the inner turns: the heap behind them -/
def lcI (a : AI) (vs : List Nat) (g : AG) (t : AT) (e : AE) (σ : ASt) (d : Nat) : Nat → Nat → AH → Option AH
  | n, j, h => match a.nxt j h with
    | none => none
    | some none => some h
    | some (some x) => match n with
      | 0 => none
      | n + 1 => match g x (wipeA σ vs) h with
        | none => none
        | some (σ1, h1) => match t σ1 h1 with
          | .ok true h2 => match e σ1 h2 with
            | .ok y h3 => match h3[d]? with
              | some (.lst acc) => if acc.length < sizeLine then lcI a vs g t e σ d n (j + 1) (h3.set d (.lst (acc ++ [y]))) else none
              | _ => none
            | _ => none
          | .ok false h2 => lcI a vs g t e σ d n (j + 1) h2
          | _ => none
def lcO (a : AI) (vs : List Nat) (g : AG) (t : AT) (m1 : AIt) (vs1 : List Nat) (g1 : AG) (t1 : AT) (e : AE) (σ : ASt) (d : Nat) : Nat → Nat → AH → Res PV
  | n, i, h => match a.nxt i h with
    | none => .stuck
    | some none => .ok (.loc d) h
    | some (some x) => match n with
      | 0 => .stuck
      | n + 1 => match g x (wipeA σ vs) h with
        | none => .stuck
        | some (σ1, h1) => match t σ1 h1 with
          | .ok true h2 => match m1 σ1 h2 with
            | .ok a1 h3 => match lcI a1 vs1 g1 t1 e σ1 d a1.n 0 h3 with
              | some h4 => lcO a vs g t m1 vs1 g1 t1 e σ d n (i + 1) h4
              | none => .stuck
            | _ => .stuck
          | .ok false h2 => lcO a vs g t m1 vs1 g1 t1 e σ d n (i + 1) h2
          | _ => .stuck
def aLc2 (m : AIt) (vs : List Nat) (g : AG) (t : AT) (m1 : AIt) (vs1 : List Nat) (g1 : AG) (t1 : AT) (e : AE) : AE := fun σ h => (m σ h).bind fun a h1 => lcO a vs g t m1 vs1 g1 t1 e σ h1.length a.n 0 (h1 ++ [.lst []])
theorem wipe_wipe (τ : St) (vs : List Nat) : L2.wipe (L2.wipe τ vs) vs = L2.wipe τ vs := by
  have : ∀ (us : List Nat), (∀ u ∈ us, u ∈ vs) → L2.wipe (L2.wipe τ us) vs = L2.wipe τ vs := by
    intro us
    induction us with
    | nil => intro _; rfl
    | cons u us ih =>
      intro hu
      show L2.wipe ((L2.wipe τ us).set u none) vs = _
      rw [wipe_comm _ u none vs (hu u List.mem_cons_self)]
      exact ih fun z hz => hu z (List.mem_cons_of_mem _ hz)
  exact this vs fun _ hz => hz
abbrev GW (K : KW) (vs : List Nat) (g : AG) : TG := fun v τ H Q => ∃ ρ h σ x, Rep K ρ h H ∧ RS K ρ H σ τ ∧ RV K ρ H x v ∧ OutG K ρ H (g x σ h) fun τ' H' => L2.wipe τ' vs = L2.wipe τ vs → Q τ' H'
theorem le_lc2 {m m1 : AIt} {vs vs1 : List Nat} {g g1 : AG} {t t1 : AT} {e : AE} {τ : St} {H : Hp} {Q : VK} (o : LE K W (aLc2 m vs g t m1 vs1 g1 t1 e) τ H Q) :
    tLc2 (LI K W m) (GW K vs g) (LT K W0 t) (LI K W0 m1) (GW K vs1 g1) (LT K W0 t1) (LE K W0 e) vs vs1 τ H Q := by
  obtain ⟨ρ, h, σ, R, S, o⟩ := o
  refine ⟨ρ, h, σ, R, S, (Out.bind (R := AIok K) o).mono fun J H1 ⟨ρ1, a, h1, e1, R1, q1, o1⟩ => ?_⟩
  intro D hD
  have x1 : Ext ρ1 H1 (ρ1 ++ [D]) (upd H1 D (.lst [])) := .push hD
  have R1' : Rep K (ρ1 ++ [D]) (h1 ++ [.lst []]) (upd H1 D (.lst [])) := R1.push hD ⟨[], upd_same, .nil⟩
  have ed : (ρ1 ++ [D])[h1.length]? = some D := by rw [← R1.len]; simp
  have S1 := (S.mono e1).mono x1
  let Wo : Nat → Nat → Hp → Prop := fun i n H => ∃ ρ h, Ext (ρ1 ++ [D]) (upd H1 D (.lst [])) ρ H ∧ Rep K ρ h H ∧ OutE K W ρ τ H (lcO a vs g t m1 vs1 g1 t1 e σ h1.length n i h) Q
  refine ⟨Wo, ⟨a.n, ρ1 ++ [D], _, .refl, R1', Out.later o1 x1⟩, ?_⟩
  rintro i n H2 ⟨ρ2, h2, e2, R2, o2⟩
  have q2 := q1 i ρ2 h2 H2 (x1.trans e2) R2
  unfold lcO at o2
  cases c : a.nxt i h2 with
  | none => rw [c] at o2; exact o2.elim
  | some ox =>
    rw [c] at o2 q2
    cases ox with
    | none => exact .inl ⟨q2, Out.done o2 R2 (.loc (e2.get ed))⟩
    | some x =>
      cases n with
      | zero => exact o2.elim
      | succ n =>
        refine .inr ⟨q2.1, Wo (i + 1) n, fun H' k => ⟨n, Nat.lt_succ_self _, k⟩, fun v H3 y => ?_⟩
        obtain ⟨e3, R3, r3⟩ := q2.2 v H3 y
        have e03 := e2.trans e3
        refine ⟨ρ2, h2, wipeA σ vs, x, R3, (S1.mono e03).wipe vs, r3, ?_⟩
        dsimp only at o2
        cases cg : g x (wipeA σ vs) h2 with
        | none => rw [cg] at o2; exact o2.elim
        | some p =>
          obtain ⟨σ4, h4⟩ := p
          rw [cg] at o2
          intro ρ4 τ4 H4 e4 R4 S4 w4
          refine ⟨w4.trans (wipe_wipe τ vs), ρ4, h4, σ4, R4, S4, ?_⟩
          dsimp only at o2
          cases ct : t σ4 h4 with
          | exc _ _ _ => rw [ct] at o2; exact o2.elim
          | stuck => rw [ct] at o2; exact o2.elim
          | ok k h5 =>
            rw [ct] at o2
            intro ρ5 H5 b e5 R5 eb
            subst eb
            have e05 := e3.trans (e4.trans e5)
            cases k with
            | false =>
              rw [if_neg Bool.false_ne_true]
              exact ⟨ρ5, h5, e2.trans e05, R5, Out.later o2 e05⟩
            | true =>
              rw [if_pos rfl]
              dsimp only at o2
              refine ⟨ρ5, h5, σ4, R5, S4.mono e5, ?_⟩
              cases cm : m1 σ4 h5 with
              | exc _ _ _ => rw [cm] at o2; exact o2.elim
              | stuck => rw [cm] at o2; exact o2.elim
              | ok a1 h6 =>
                rw [cm] at o2
                dsimp only at o2
                intro ρ6 H6 J1 e6 R6 q6
                cases cE : lcI a1 vs1 g1 t1 e σ4 h1.length a1.n 0 h6 with
                | none => rw [cE] at o2; exact o2.elim
                | some hE =>
                  rw [cE] at o2
                  dsimp only at o2
                  have e06 := e05.trans e6
                  have S6 := (S4.mono e5).mono e6
                  let Wi : Nat → Nat → Hp → Prop := fun j k H => ∃ ρ h, Ext ρ6 H6 ρ H ∧ Rep K ρ h H ∧ lcI a1 vs1 g1 t1 e σ4 h1.length k j h = some hE
                  refine ⟨Wi, ⟨a1.n, ρ6, h6, .refl, R6, cE⟩, ?_⟩
                  rintro j k H7 ⟨ρ7, h7, e7, R7, c7⟩
                  have q7 := q6 j ρ7 h7 H7 e7 R7
                  unfold lcI at c7
                  cases cn : a1.nxt j h7 with
                  | none => rw [cn] at c7; cases c7
                  | some oy =>
                    rw [cn] at c7 q7
                    cases oy with
                    | none =>
                      cases c7
                      exact .inl ⟨q7, ρ7, _, (e2.trans e06).trans e7, R7, Out.later o2 (e06.trans e7)⟩
                    | some x2 =>
                      cases k with
                      | zero => cases c7
                      | succ k =>
                        refine .inr ⟨q7.1, Wi (j + 1) k, fun H' z => ⟨k, Nat.lt_succ_self _, z⟩, fun v2 H8 y2 => ?_⟩
                        obtain ⟨e8, R8, r8⟩ := q7.2 v2 H8 y2
                        have e68 := e7.trans e8
                        refine ⟨ρ7, h7, wipeA σ4 vs1, x2, R8, (S6.mono e68).wipe vs1, r8, ?_⟩
                        dsimp only at c7
                        cases cg2 : g1 x2 (wipeA σ4 vs1) h7 with
                        | none => rw [cg2] at c7; cases c7
                        | some p2 =>
                          obtain ⟨σ9, h9⟩ := p2
                          rw [cg2] at c7
                          intro ρ9 τ9 H9 e9 R9 S9 w9
                          refine ⟨w9.trans (wipe_wipe _ vs1), ρ9, h9, σ9, R9, S9, ?_⟩
                          dsimp only at c7
                          cases ct2 : t1 σ9 h9 with
                          | exc _ _ _ => rw [ct2] at c7; cases c7
                          | stuck => rw [ct2] at c7; cases c7
                          | ok b2 h10 =>
                            rw [ct2] at c7
                            intro ρ10 H10 b' e10 R10 eb2
                            subst eb2
                            have e610 := e68.trans (e9.trans e10)
                            cases b2 with
                            | false =>
                              rw [if_neg Bool.false_ne_true]
                              exact ⟨ρ10, h10, e610, R10, c7⟩
                            | true =>
                              rw [if_pos rfl]
                              dsimp only at c7
                              refine ⟨ρ10, h10, σ9, R10, S9.mono e10, ?_⟩
                              cases ce : e σ9 h10 with
                              | exc _ _ _ => rw [ce] at c7; cases c7
                              | stuck => rw [ce] at c7; cases c7
                              | ok y3 h11 =>
                                rw [ce] at c7
                                dsimp only at c7
                                intro ρ11 H11 v11 e11 R11 r11
                                split at c7
                                · rename_i acc ea
                                  split at c7
                                  · rename_i hz
                                    have e611 := e610.trans e11
                                    have ep := ((e2.trans e06).trans e611).get ed
                                    obtain ⟨us, eu, q⟩ := R11.obj _ _ _ ep ea
                                    refine ⟨us, eu, by rw [q.len]; exact hz, ?_⟩
                                    have x12 : Ext ρ11 H11 ρ11 (upd H11 D (.lst (us ++ [v11]))) := .write ep (nfL eu)
                                    exact ⟨ρ11, _, e611.trans x12, R11.write (u := .lst (acc ++ [y3])) ep (nfL eu) ⟨_, upd_same, (q.append (.cons r11 .nil)).mono x12⟩, c7⟩
                                  · cases c7
                                · cases c7
theorem je_lc2 {elt tg iter tg1 iter1 : Expr} {ifs ifs1 : List Expr} {scope : Scope} {own : List (Str × Nat)} {vs1 : List Nat} {pos : Pos} {m m1 : AIt} {g g1 : AG} {t t1 : AT} {e : AE} (hc : X.calm = true) (hN : X.N.Nodup) (hi : JI X W tg iter m) (ok : BlkOk X.N X.env.scope scope own) (hv : ∀ i ∈ vs1, i ∈ own.map (·.2))
    (hg : ∀ (s : Shared) (H : Hp) (C : Addr) (cl : List (Str × Addr)) (fp : List Addr), JGw (Blk X scope s H C cl fp) (own.map (·.2)) tg g) (ht : ∀ (s : Shared) (H : Hp) (C : Addr) (cl : List (Str × Addr)) (fp : List Addr), JTs (Blk X scope s H C cl fp) W0 ifs t)
    (hi1 : ∀ (s : Shared) (H : Hp) (C : Addr) (cl : List (Str × Addr)) (fp : List Addr), JI (Blk X scope s H C cl fp) W0 tg1 iter1 m1)
    (hg1 : ∀ (s : Shared) (H : Hp) (C : Addr) (cl : List (Str × Addr)) (fp : List Addr), JGw (Blk X scope s H C cl fp) vs1 tg1 g1) (ht1 : ∀ (s : Shared) (H : Hp) (C : Addr) (cl : List (Str × Addr)) (fp : List Addr), JTs (Blk X scope s H C cl fp) W0 ifs1 t1)
    (he : ∀ (s : Shared) (H : Hp) (C : Addr) (cl : List (Str × Addr)) (fp : List Addr), JE (Blk X scope s H C cl fp) W0 elt e) (hs : ∀ x, foldedSetIterable iter X.env x = pure x := by intro _; rfl) (hs1 : ∀ env x, foldedSetIterable iter1 env x = pure x := by intro _ _; rfl) :
    JE X W (.ListComp elt [⟨tg, iter, ifs, 0⟩, ⟨tg1, iter1, ifs1, 0⟩] scope pos) (aLc2 m (own.map (·.2)) g t m1 vs1 g1 t1 e) :=
  ⟨PEmono (pe_lc2 (own := own) hc hN hi.pi ok hv (fun s H C cl fp => (hg s H C cl fp).pg) (fun s H C cl fp => (ht s H C cl fp).pt) (fun s H C cl fp => (hi1 s H C cl fp).pi) (fun s H C cl fp => (hg1 s H C cl fp).pg) (fun s H C cl fp => (ht1 s H C cl fp).pt) (fun s H C cl fp => (he s H C cl fp).pe) hs hs1) fun τ H Q o => le_lc2 o⟩
end
end AB

/-! AB16: an own error whose __init__ says super().__init__(..): its def -/
namespace AB
open PySem PySem.Spec
open PyProof.Rows hiding St
open L2 NdefX

theorem ldN_var {X : Cx} {pins : List (Addr × Obj)} {s : Shared} {σ : St} {H : Hp} {i : Nat} {x : Str} {v : V} {E : Value → Shared → Prop} {A : Around} {Q : Value → Shared → Prop} (I : Inv X pins σ H s) (hN : X.N[i]? = some x) (hv : Vis X.env.scope x)
    (e : σ[i]? = some (some v)) (h : ∀ u, RelV v u → Q u s) (hcd : (x == ("__classdict__" : Str)) = false := by decide) : wpAny (model X.prog X.w) A (loadName X.env x) Q E s := by
  obtain ⟨m, hn, hl⟩ := I.loc
  obtain ⟨u, r, l⟩ := hl i x v hN e hv
  rcases l with ⟨hk, hm⟩ | ⟨hk, c, hc, hcell⟩
  · exact wpAny_loadName_local I.ok.kind hk hn hm (h u r)
  · rcases hk with hk | hk
    · exact wpAny_loadName_cell I.ok.kind hk hc hcell (h u r)
    · exact wpAny_loadName_free I.ok.kind hk hc hcell (h u r) hcd
theorem ldN_blt {X : Cx} {E : Value → Shared → Prop} {A : Around} {pins : List (Addr × Obj)} {s : Shared} {σ : St} {H : Hp} {x : Str} {u : Value} {Q : Value → Shared → Prop} (I : Inv X pins σ H s) (hg : Gl X x) (hm : X.mg x = none) (hv : bootBuiltins x = some u) (h : Q u s)
    (hn : x ≠ "__name__" := by decide) : wpAny (model X.prog X.w) A (loadName X.env x) Q E s := by
  obtain ⟨mb, h1, h2⟩ := I.mod.blt
  have k := I.ok.kind
  have g : wpAny (model X.prog X.w) A (loadGlobal X.env x) Q E s := Calls.loadGlobal_builtin (by rw [I.ok.glob]; exact I.mod.glob.keeps I.bk) hm (by rw [I.ok.blt]; exact h1.keeps I.bk) ((h2 x hn).trans hv) h
  unfold loadName
  have hg' : X.env.kindOf x = some .globalImplicit := hg
  simp only [Env.blockKind, k, hg', ScopeKind.isAnnotationScope, Bool.false_and, Bool.false_eq_true, if_false]
  exact g

/-- what the written part says of an own error class over ValueError -/
structure ErrC (K : PySem.W.Frag) (C : Addr) : Prop where
  x : OexC K C
  op : PySem.W.nsIn K PySem.cStatics "thirdparty.any" = some none
  subC : PySem.W.subIn K (.ref C) (.ref C) = some true
  sup : PySem.W.ks_superIn K C C "__init__" = some (some (.builtin "ValueError.__init__"))
  subV : PySem.W.subIn K (.ref C) (.type "ValueError") = some true

theorem upd_self {H : Hp} {a : Addr} {o : HO} (e : H a = some o) : upd H a o = H := by
  funext b
  by_cases hb : b = a
  · rw [hb, upd_same, e]
  · rw [upd_ne hb]

/-- the bound ValueError.__init__ called -/
theorem mw_call {X : Cx} {pins : List (Addr × Obj)} {σ : St} {H : Hp} {s : Shared} {a C u : Addr} {us : List Value} {A : Around} {E : Value → Shared → Prop} {Q : Value → Shared → Prop} (T : OexC X.K C) (I : Inv X pins σ H s) (e : H a = some (exo a C none)) (hu : s.heap.get? u = some (PySem.W.kxs_mw "ValueError.__init__" a))
    (hl : us.length ≤ sizeLine) (h : ∀ s', Inv X pins σ H s' → Q .none s') : wpAny (model X.prog X.w) A (call (.ref u) us) Q E s := by
  obtain ⟨nm, q, N, bs, bm, sn, sub, ab, col, dd, k0, k1, k2, k3, k5, hC, hbm⟩ := T.cls
  obtain ⟨t1, ho⟩ := exo_at I.hok e
  have hC' := I.kIn _ _ hC
  obtain ⟨hp, g, d, t, os⟩ := s
  refine wpAny_call (codeAny_of_tree ?_)
  show wpAny _ A.in1 (callAny (.ref u) ⟨us, []⟩) _ _ _
  simp only [callAny]
  refine wpAny_bind (wpAny_load hu ?_)
  simp only [PySem.W.kxs_mw, show (Value.type "method-wrapper" == Value.type "method" || Value.type "method-wrapper" == Value.type "builtin_function_or_method" || Value.type "method-wrapper" == Value.type "method-wrapper") = true by decide, if_true]
  refine PySem.W.KFB.if_so (by decide) ?_
  refine wpAny_bind (PySem.W.check_bound_init PySem.F.excBase_ValueError.toExcCallFacts hC' ho rfl ?_)
  refine wpAny_bind (wpAny_pure (wpAny_pure ?_))
  refine ⟨plainId_quiet PySem.F.excBase_ValueError.init.plain _, codeAny_builtin PySem.F.excBase_ValueError.initEntry ?_⟩
  refine PySem.W.exc_init_tree (cls := .ref C) (t0 := t1) (dv := none) (c2 := .none) (c3 := .none) (b4 := .bool false) ho hl fun h' k hx _ => ?_
  have J := I.write (t' := t) (x := a) (e := a) (o := exo a C none) (by rw [e]; exact True.intro) (.inl rfl) k ⟨_, hx⟩ (exo_ok hx)
  rw [upd_self e] at J
  exact h _ J

section
variable {CX : CXT} {P : Program} {w : World} {K : PySem.W.Frag} {mg : Str → Option Value} {base : Heap} {N ps : List Str} {F : NF} {f C cc : Addr} {k : Nat} {sp : Sp}
/-- a def whose first statement is super().__init__(e, ..): T the class, its cell __class__ -/
theorem fn_init {doc pm ctv oc occ : Value} {od odc : Option Addr} {osl slc : Array (Option Value)} {e : Expr} {es : List Expr} {rest : List Stmt} {p0 p1 p2 p3 p4 : Pos} {ta : TA} {tr : TS} {self0 : Str} {file : Str} {tf : Tok} {cvs : Array Value} {coc : Value} {cod : Option Addr} {cosl : Array (Option Value)}
    (T : ErrC K C) (S : NScope N ps ["__class__"] F.scope) (hps : ps.head? = some self0) (hs0 : (self0 == ("__classdict__" : Str)) = false) (lk : K.lookup f = some ⟨oc, od, .func (F.fd doc pm ctv), osl⟩) (hcl : F.cl = [(("__class__" : Str), cc)]) (lc : K.lookup cc = some ⟨occ, odc, .cell (some (.ref C)), slc⟩)
    (hcd : PySem.W.codeIn K (.ref F.c) F.qual = true) (lcd : K.lookup F.c = some ⟨coc, cod, .fields cvs, cosl⟩) (hvs : cvs[2]? = some (.str file tf)) (hfile : ((P.main.file : Str) == file) = true) (htop : (P.main.scope.names.lookup ("super" : Str)).isSome = false)
    (hbd : F.body = .Expr (.Call (.Attribute (.Call (.Name "super" p0) [] [] p1) "__init__" p2) (e :: es) [] p3) p4 :: rest) (hsup : F.scope.names.lookup ("super" : Str) = some NameKind.globalImplicit) (hmg : mg "super" = none)
    (hpar : (F.params.posonlyargs ++ F.params.args).head?.map (·.arg) = some self0)
    (len : ∀ vs H Q E, sp vs H Q E → vs.length = ps.length)
    (hself : ∀ vs H Q E, sp vs H Q E → ∃ a ws, vs = .ref a :: ws ∧ H a = some (exo a C none))
    (hargs : ∀ (A : Around) (outer : List Env) (s : Shared) (H : Hp) (E : XK), PA (ncx CX P w K mg base N F f A outer s H E) (e :: es) ta)
    (hrest : ∀ (A : Around) (outer : List Env) (s : Shared) (H : Hp) (E : XK), PSs (ncx CX P w K mg base N F f A outer s H E) rest tr)
    (hq : ∀ vs H Q E a ws, sp vs H Q E → vs = .ref a :: ws → H a = some (exo a C none) → ta (startF N vs [some (.ref C)]) H fun us H1 => us.length ≤ 1000 ∧ H1 a = some (exo a C none) ∧ tr { nx := fun _ H' => Q .non H', rt := Q } (startF N vs [some (.ref C)]) H1)
    (hev : ∀ env : Env, ∃ pl : Sem Bool, eval (.Call (.Attribute (.Call (.Name "super" p0) [] [] p1) "__init__" p2) (e :: es) [] p3) env = (do
      let ov ← attributeBase (.Call (.Name "super" p0) [] [] p1) "__init__" env (eval (.Call (.Name "super" p0) [] [] p1) env)
      standAt p2.atName
      let (f, first) ← holding [ov] (getMethod ov "__init__" pl)
      callWith p3 f first (backTo p3 (starEach (e :: es) env)) []))
    (he : ∀ env : Env, starEach (e :: es) env = (false, eval e env) :: starEach es env := by intro env; rfl) (hpl : ∀ (env : Env) (pos : Pos), (backTo pos (starEach es env)).any (·.1) = false := by intro env pos; rfl) :
    FnOk P w K mg base CX (k + 1) f (F.fd doc pm ctv) ps sp := by
  refine ⟨len, fun A outer s H args us vs Q E hr e0 hb r hsp => ?_⟩
  have hl := len _ _ _ _ hsp
  have KX : K.In s.heap := e0.mod.kin.keeps fun b o e => (e0.bs b o e).1
  have lim : s.heap.NoLimit := e0.mod.nolimit.keeps fun b o e => (e0.bs b o e).1
  obtain ⟨a, ws, ev, ea⟩ := hself _ _ _ _ hsp
  have hqq := hq _ _ _ _ a ws hsp ev ea
  refine PySem.ks_codeAny_call_defAt (hco := S.co) (hgen := S.gen) (hk := S.kind) hr.depth (KX _ _ lk) rfl lim (PySem.W.codeRec_of KX hcd) rfl hb S.nocell (fun ⟨n, v⟩ hy => S.par n (List.of_mem_zip hy).1) fun h₁ hns kp => ?_
  have CA : CellsAt F.cl ["__class__"] [some (V.ref C)] s.heap H := by
    rw [hcl]
    have one : ∀ {x : Str} {c : Addr}, ([(("__class__" : Str), cc)] : List (Str × Addr)).lookup x = some c → x = "__class__" ∧ c = cc := fun {x c} q => by
      rw [List.lookup_cons] at q
      by_cases hx : x = "__class__"
      · subst hx
        simp at q
        exact ⟨rfl, q.symm⟩
      · have : (x == ("__class__" : Str)) = false := by simpa using hx
        rw [this] at q
        cases q
    refine ⟨rfl, fun y c q => ?_, fun x y c q1 q2 => (one q1).1.trans (one q2).1.symm, fun i y q => ?_⟩
    · obtain ⟨_, rfl⟩ := one q
      exact ⟨(e0.bs _ _ (e0.mod.kin _ _ lc)).2, some (.ref C), _, KX _ _ lc, rfl⟩
    · cases i with
      | succ i => cases q
      | zero =>
        cases q
        refine ⟨cc, by simp, fun v q => ?_⟩
        cases q
        exact ⟨.ref C, rfl, _, KX _ _ lc, rfl⟩
  have I : Inv (ncx CX P w K mg base N F f A outer s H E) [] (startF N vs [some (.ref C)]) H { s with heap := h₁, toks := s.toks + (ps.zip us).length } := inv_startN S hr.hd e0 hl r CA hns kp
  have env_eq : PySem.callEnv (F.fd doc pm ctv) s.heap.objs.size f = envF F f s.heap.objs.size := rfl
  rw [env_eq, hbd]
  have hN0 : N[0]? = some self0 := by
    have q := S.pre
    cases ps with
    | nil => cases hps
    | cons p ps =>
      cases hps
      cases N with
      | nil => cases q
      | cons n N => simp at q; rw [q.1]; rfl
  have hpos : 0 < ps.length := by
    cases ps with
    | nil => cases hps
    | cons p ps => exact Nat.succ_pos _
  have hself0 : self0 ∈ ps := by
    cases ps with
    | nil => cases hps
    | cons p ps => cases hps; exact List.mem_cons_self
  have hNc : N[ps.length]? = some ("__class__" : Str) := by
    have q : (N.take (ps.length + 1))[ps.length]? = (ps ++ [("__class__" : Str)])[ps.length]? := by rw [← S.pre]; rfl
    rw [List.getElem?_take_of_lt (by omega), List.getElem?_append_right (by omega), Nat.sub_self] at q
    exact q
  have sg0 : (startF N vs [some (V.ref C)])[0]? = some (some (V.ref a)) := by rw [ev]; rfl
  have sgc : (startF N vs [some (V.ref C)])[ps.length]? = some (some (V.ref C)) := by
    unfold startF
    rw [List.getElem?_append_right (by rw [List.length_map]; omega), List.length_map, hl, Nat.sub_self]
    rfl
  obtain ⟨nm, q, Nn, bs, bm, sn, sub, ab, col, dd, k0, k1, k2, k3, k5, hC, hbm⟩ := T.x.cls
  obtain ⟨t1, hx⟩ := exo_at I.hok ea
  have KX1 := I.kIn
  obtain ⟨par, hpar1, hpar2⟩ : ∃ par, (F.params.posonlyargs ++ F.params.args).head? = some par ∧ par.arg = self0 := by
    cases h : (F.params.posonlyargs ++ F.params.args).head? with
    | none => rw [h] at hpar; cases hpar
    | some p => rw [h] at hpar; cases hpar; exact ⟨p, rfl, rfl⟩
  obtain ⟨pl, hev⟩ := hev (envF F f s.heap.objs.size)
  refine PySem.ks_wpAt_execs_cons (PySem.ks_wpAt_Expr_any (hi := by unfold PySem.interactive; simp [S.kind]) (PySem.ks_wpAt_MethodCall (he := hev) (PySem.ks_wpAt_super_base (ar := par) (f := f) (cc := F.c) hsup (S.frk _ List.mem_cons_self) rfl rfl (KX1 _ _ lk) rfl hpar1 rfl (KX1 _ _ lcd) rfl hvs hfile htop ?_)))
  refine ldN_blt I hsup hmg (by rfl) ⟨rfl, ?_⟩
  refine ldN_var I hNc (.inr (.inr (S.frk _ List.mem_cons_self))) sgc fun u1 ru1 => ?_
  obtain rfl : u1 = Value.ref C := ru1
  rw [hpar2]
  refine ldN_var I hN0 (.inl (S.par _ hself0)) sg0 (fun u2 ru2 => ?_) ?hcd
  case hcd => exact hs0
  obtain rfl : u2 = Value.ref a := ru2
  refine PySem.ks_wpAny_isType_cls (KX1 _ _ hC) rfl ⟨rfl, ?_⟩
  refine PySem.ks_wpAny_call_super (KX1 _ _ hC) rfl hx rfl (fun c q => nomatch q) (PySem.W.looks_subIn KX1 T.subC) fun h2 hso k2 => ?_
  have I2 := I.kept (t' := s.toks + (ps.zip us).length) k2
  have hx2 := k2 _ _ hx
  have X2 := I2.kIn
  have IA : PySem.W.InstAt h2 a { cls := .ref C, dict := none, data := .fields #[.ref t1, .none, .none, .none, .bool false, .none] } C none := ⟨hx2, rfl, rfl, trivial⟩
  cases hc : PySem.W.clsIn K C with
  | none =>
    have := T.sup
    unfold PySem.W.ks_superIn at this
    rw [hc] at this
    cases this
  | some cd =>
    have hsup' := T.sup
    unfold PySem.W.ks_superIn at hsup'
    rw [hc] at hsup'
    have hmro : PySem.W.Looks (model P w) h2 (mroOf (.ref C)) cd.mro := fun A Q E s k q => wpAny_bind ((PySem.W.looks_clsIn X2 hc) A _ E s k (wpAny_pure q))
    refine PySem.W.kxs_getMethod PySem.W.kxs_ValueError hso (PySem.W.looks_opaque X2 T.op) (l₀ := cd.mro) hmro rfl X2 hsup' (IA.type.andThen (PySem.W.looks_subIn X2 T.subV)) (PySem.W.ks_ne X2 IA hc) rfl ?_
    have I3 := I2.kept (t' := s.toks + (ps.zip us).length + 1) (h' := h2.push (PySem.W.kxs_mw "ValueError.__init__" a)) (fun b u e => Heap.get?_push_of_some _ e)
    have hu3 : (h2.push (PySem.W.kxs_mw "ValueError.__init__" a)).get? h2.objs.size = some (PySem.W.kxs_mw "ValueError.__init__" a) := Heap.get?_push_at rfl rfl
    have I4 : Inv (ncx CX P w K mg base N F f A outer s H E) [(h2.objs.size, PySem.W.kxs_mw "ValueError.__init__" a)] (startF N vs [some (V.ref C)]) H _ := I3.pins_of fun p hp => by
      obtain rfl := List.mem_singleton.mp hp
      refine ⟨hu3, I2.hok.fresh (Nat.le_refl _), fun z => ?_, fun hm => ?_, fun v z => nomatch z⟩
      · obtain ⟨m, ⟨o, es1, es2, e1, _⟩, _⟩ := I2.loc
        have y := Heap.lt_size e1
        rw [← z] at y
        exact Nat.lt_irrefl _ y
      · obtain ⟨_, o', e', _⟩ := I2.ok.funs.mem hm
        obtain ⟨o2, e2⟩ := I2.base.there _ _ e' (by show _ ∉ ([] : List Addr); simp)
        exact Nat.lt_irrefl _ (Heap.lt_size e2)
    have run := (hargs A outer s H E).run p3 _ _ _ H _ I4 hqq
    have hpl' : ((backTo p3 (starEach (e :: es) (envF F f s.heap.objs.size))).any (·.1)) = false := by
      rw [he]
      show (false || (backTo p3 (starEach es (envF F f s.heap.objs.size))).any (·.1)) = false
      rw [hpl]
      rfl
    refine PySem.W.kxs_callWith (i := "ValueError.__init__") (x := a) hpl' ?_
    rw [he] at run ⊢
    refine PySem.Calls.evalArgs_plain (wpAny_mono run (fun us1 s4 h4 => ?_) fun _ _ z => z)
    obtain ⟨vs1, H1, J1, r1, hz, ea1, q1⟩ := h4
    have hu4 := (J1.pin _ (List.mem_append_right _ (List.mem_singleton.mpr rfl))).1
    refine ⟨hu4, ?_⟩
    have hlen : us1.length ≤ sizeLine := by
      rw [← Paired.length r1, sizeLine_eq]
      omega
    refine mw_call (us := [] ++ us1) T.x J1 ea1 hu4 hlen fun s5 J5 => ?_
    have J6 : Inv (ncx CX P w K mg base N F f A outer s H E) [] (startF N vs [some (V.ref C)]) H1 s5 := J5.pins_of fun p hp => absurd hp (by simp)
    refine PySem.wpAt_of_wpAny ?_
    refine wpAny_mono ((hrest A outer s H E).run [] s5 (startF N vs [some (V.ref C)]) H1 _ J6 q1) (fun fl s' hs => ?_) fun e s' hs => ?_
    · have fin : ∀ {σ' : L2.St} {H' : Hp} {v : V} {u : Value}, Inv (ncx CX P w K mg base N F f A outer s H E) [] σ' H' s' → L2.RelV v u → Q v H' → CE outer P w H s Q u s' :=
        fun {σ' H' v u} J rv q => ⟨v, H', J.os, J.bare, J.base, J.hok, rv, q⟩
      cases fl with
      | ret u =>
        obtain ⟨v, σ', H', J, rv, q⟩ := hs
        exact fin J rv q
      | next =>
        obtain ⟨σ', H', J, q⟩ := hs
        exact fin (v := V.non) (u := Value.none) J rfl q
      | brk =>
        obtain ⟨_, _, _, q⟩ := hs
        exact False.elim q
      | cont =>
        obtain ⟨_, _, _, q⟩ := hs
        exact False.elim q
    · exact hs
end
end AB

/-! AB17: own errors made and raised -/
namespace AB
open PySem PySem.Spec
open PyProof.Rows hiding St
open L2 NdefX

/-- what an error's __init__ promises: the fields by name -/
def spI (C : Addr) (names : List Str) : Sp := fun vs H Q _ => ∃ a ws, vs = .ref a :: ws ∧ ws.length = names.length ∧ H a = some (exo a C none) ∧
  ∀ dx H', H dx = none → dx ≠ a → H' a = some (exo a C (some dx)) → H' dx = some (exd dx (names.zip ws).reverse) → (∀ b, b ≠ a → b ≠ dx → H' b = H b) → Q .non H'

section
variable {CX : CXT} {P : Program} {w : World} {K : PySem.W.Frag} {mg : Str → Option Value} {base : Heap} {F : NF} {f C cc : Addr} {k : Nat}
theorem err_init1 {doc pm ctv oc occ : Value} {od odc : Option Addr} {osl slc : Array (Option Value)} {p0 p1 p2 p3 p4 p5 p6 p7 p8 p9 : Pos} {n : Str} {file : Str} {tf : Tok} {cvs : Array Value} {coc : Value} {cod : Option Addr} {cosl : Array (Option Value)}
    (T : ErrC K C) (hno : PySem.W.findIn K (.ref C) n = some none) (S : NScope ["self", n, "__class__"] ["self", n] ["__class__"] F.scope) (lk : K.lookup f = some ⟨oc, od, .func (F.fd doc pm ctv), osl⟩) (hcl : F.cl = [(("__class__" : Str), cc)]) (lc : K.lookup cc = some ⟨occ, odc, .cell (some (.ref C)), slc⟩)
    (hcd : PySem.W.codeIn K (.ref F.c) F.qual = true) (lcd : K.lookup F.c = some ⟨coc, cod, .fields cvs, cosl⟩) (hvs : cvs[2]? = some (.str file tf)) (hfile : ((P.main.file : Str) == file) = true) (htop : (P.main.scope.names.lookup ("super" : Str)).isSome = false)
    (hbd : F.body = [.Expr (.Call (.Attribute (.Call (.Name "super" p0) [] [] p1) "__init__" p2) [.Name n p5] [] p3) p4, .Assign [.Attribute (.Name "self" p6) n p7] (.Name n p8) p9]) (hsup : F.scope.names.lookup ("super" : Str) = some NameKind.globalImplicit) (hmg : mg "super" = none)
    (hpar : (F.params.posonlyargs ++ F.params.args).head?.map (·.arg) = some "self")
    (hev : ∀ env : Env, ∃ pl : Sem Bool, eval (.Call (.Attribute (.Call (.Name "super" p0) [] [] p1) "__init__" p2) [.Name n p5] [] p3) env = (do
      let ov ← attributeBase (.Call (.Name "super" p0) [] [] p1) "__init__" env (eval (.Call (.Name "super" p0) [] [] p1) env)
      standAt p2.atName
      let (f, first) ← holding [ov] (getMethod ov "__init__" pl)
      callWith p3 f first (backTo p3 (starEach [.Name n p5] env)) []))
    (hd : (n == ("__debug__" : Str)) = false := by decide) (hcdn : (n == ("__classdict__" : Str)) = false := by decide) :
    FnOk P w K mg base CX (k + 1) f (F.fd doc pm ctv) ["self", n] (spI C [n]) := by
  have vis : ∀ {A outer s H E} {x : Str}, x ∈ (["self", n] : List Str) → Vis (ncx CX P w K mg base ["self", n, "__class__"] F f A outer s H E).env.scope x := fun hx => .inl (S.par _ hx)
  refine fn_init (ta := tCons (tVar 1) tNil) (tr := tOst K n (tVar 0) (tVar 1)) (e := .Name n p5) (es := []) T S rfl (by decide) lk hcl lc hcd lcd hvs hfile htop hbd hsup hmg hpar (fun vs H Q E h => ?_) (fun vs H Q E h => ?_) (fun A outer s H E => ?_) (fun A outer s H E => ?_) (fun vs H Q E a ws h ev ea => ?_) ?_
  · obtain ⟨a, ws, rfl, hl, _⟩ := h
    simpa using hl
  · obtain ⟨a, ws, rfl, hl, e, _⟩ := h
    exact ⟨a, ws, rfl, e⟩
  · exact pa_cons (pe_var (i := 1) rfl (vis (by simp)) hd hcdn) pa_nil
  · exact pss_one (ps_ost (pe_var (i := 0) rfl (vis (by simp))) (pe_var (i := 1) rfl (vis (by simp)) hd hcdn))
  · obtain ⟨a2, ws2, e2, hl, ea2, hq⟩ := h
    subst ev
    cases e2
    cases ws with
    | nil => cases hl
    | cons y ws =>
      cases ws with
      | cons _ _ => cases hl
      | nil =>
        refine ⟨y, rfl, ?_⟩
        refine ⟨by simp, ea, ?_⟩
        refine ⟨y, rfl, .ref a, rfl, a, C, rfl, T.x, hno, .inl ⟨ea, fun dx hdx hne => ?_⟩⟩
        exact hq dx _ hdx hne upd_same (by rw [upd_ne hne]; exact upd_same) fun b h1 h2 => by rw [upd_ne h1, upd_ne h2]
  · exact hev
theorem err_init2 {doc pm ctv oc occ : Value} {od odc : Option Addr} {osl slc : Array (Option Value)} {p0 p1 p2 p3 p4 p5 p6 p7 p8 p9 p10 p11 p12 p13 p14 : Pos} {n n2 : Str} {file : Str} {tf : Tok} {cvs : Array Value} {coc : Value} {cod : Option Addr} {cosl : Array (Option Value)}
    (T : ErrC K C) (hno : PySem.W.findIn K (.ref C) n = some none) (hno2 : PySem.W.findIn K (.ref C) n2 = some none) (S : NScope ["self", n, n2, "__class__"] ["self", n, n2] ["__class__"] F.scope) (lk : K.lookup f = some ⟨oc, od, .func (F.fd doc pm ctv), osl⟩) (hcl : F.cl = [(("__class__" : Str), cc)]) (lc : K.lookup cc = some ⟨occ, odc, .cell (some (.ref C)), slc⟩)
    (hcd : PySem.W.codeIn K (.ref F.c) F.qual = true) (lcd : K.lookup F.c = some ⟨coc, cod, .fields cvs, cosl⟩) (hvs : cvs[2]? = some (.str file tf)) (hfile : ((P.main.file : Str) == file) = true) (htop : (P.main.scope.names.lookup ("super" : Str)).isSome = false)
    (hbd : F.body = [.Expr (.Call (.Attribute (.Call (.Name "super" p0) [] [] p1) "__init__" p2) [.Name n p5, .Name n2 p10] [] p3) p4, .Assign [.Attribute (.Name "self" p6) n p7] (.Name n p8) p9, .Assign [.Attribute (.Name "self" p11) n2 p12] (.Name n2 p13) p14]) (hsup : F.scope.names.lookup ("super" : Str) = some NameKind.globalImplicit) (hmg : mg "super" = none)
    (hpar : (F.params.posonlyargs ++ F.params.args).head?.map (·.arg) = some "self")
    (hev : ∀ env : Env, ∃ pl : Sem Bool, eval (.Call (.Attribute (.Call (.Name "super" p0) [] [] p1) "__init__" p2) [.Name n p5, .Name n2 p10] [] p3) env = (do
      let ov ← attributeBase (.Call (.Name "super" p0) [] [] p1) "__init__" env (eval (.Call (.Name "super" p0) [] [] p1) env)
      standAt p2.atName
      let (f, first) ← holding [ov] (getMethod ov "__init__" pl)
      callWith p3 f first (backTo p3 (starEach [.Name n p5, .Name n2 p10] env)) []))
    (hd : (n == ("__debug__" : Str)) = false := by decide) (hcdn : (n == ("__classdict__" : Str)) = false := by decide) (hd2 : (n2 == ("__debug__" : Str)) = false := by decide) (hcdn2 : (n2 == ("__classdict__" : Str)) = false := by decide) :
    FnOk P w K mg base CX (k + 1) f (F.fd doc pm ctv) ["self", n, n2] (spI C [n, n2]) := by
  have vis : ∀ {A outer s H E} {x : Str}, x ∈ (["self", n, n2] : List Str) → Vis (ncx CX P w K mg base ["self", n, n2, "__class__"] F f A outer s H E).env.scope x := fun hx => .inl (S.par _ hx)
  refine fn_init (ta := tCons (tVar 1) (tCons (tVar 2) tNil)) (tr := tSeq (tOst K n (tVar 0) (tVar 1)) (tOst K n2 (tVar 0) (tVar 2))) (e := .Name n p5) (es := [.Name n2 p10]) T S rfl (by decide) lk hcl lc hcd lcd hvs hfile htop hbd hsup hmg hpar (fun vs H Q E h => ?_) (fun vs H Q E h => ?_) (fun A outer s H E => ?_) (fun A outer s H E => ?_) (fun vs H Q E a ws h ev ea => ?_) ?_
  · obtain ⟨a, ws, rfl, hl, _⟩ := h
    simpa using hl
  · obtain ⟨a, ws, rfl, hl, e, _⟩ := h
    exact ⟨a, ws, rfl, e⟩
  · exact pa_cons (pe_var (i := 1) rfl (vis (by simp)) hd hcdn) (pa_cons (pe_var (i := 2) rfl (vis (by simp)) hd2 hcdn2) pa_nil)
  · exact pss_cons (ps_ost (pe_var (i := 0) rfl (vis (by simp))) (pe_var (i := 1) rfl (vis (by simp)) hd hcdn)) (pss_one (ps_ost (pe_var (i := 0) rfl (vis (by simp))) (pe_var (i := 2) rfl (vis (by simp)) hd2 hcdn2)))
  · obtain ⟨a2, ws2, e2, hl, ea2, hq⟩ := h
    subst ev
    cases e2
    cases ws with
    | nil => cases hl
    | cons y ws =>
      cases ws with
      | nil => cases hl
      | cons z ws =>
      cases ws with
      | cons _ _ => cases hl
      | nil =>
        refine ⟨y, rfl, z, rfl, ?_⟩
        refine ⟨by simp, ea, ?_⟩
        refine ⟨y, rfl, .ref a, rfl, a, C, rfl, T.x, hno, .inl ⟨ea, fun dx hdx hne => ?_⟩⟩
        refine ⟨z, rfl, .ref a, rfl, a, C, rfl, T.x, hno2, .inr ⟨dx, [(n, y)], upd_same, by rw [upd_ne hne]; exact upd_same, by simp, ?_⟩⟩
        exact hq dx _ hdx hne (by rw [upd_ne (Ne.symm hne)]; exact upd_same) (by exact upd_same) fun b h1 h2 => by rw [upd_ne h2, upd_ne h1, upd_ne h2]
  · exact hev
end
end AB

/-! AB18: raise of own errors; try .. except X as e: return .. -/
namespace AB
open PySem PySem.Spec
open PyProof.Rows hiding St
open L2 NdefX

/-- what a law's text says of an own error class: its fields by name -/
structure ErrT (P : Program) (w : World) (K : PySem.W.Frag) (mg : Str → Option Value) (base : Heap) (x : Str) (C : Addr) (names : List Str) : Prop where
  ec : ErrC K C
  g : mg x = some (.ref C)
  ini : ∃ fI fd ps, PySem.W.findIn K (.ref C) "__init__" = some (some (.ref fI)) ∧ PySem.W.typeIn K (.ref fI) = some (.type "function") ∧ FnOk P w K mg base (L2.CX P w) 1 fI fd ps (spI C names) ∧ Binds K fd ps []
  len : names.length ≤ 900

/-- raise C(..) -/
def sRaise (C : Addr) (names : List Str) (l : AL) : AS := fun σ h => liftS (l σ h) σ fun xs h1 => if xs.length = names.length then .exc C (names.zip xs).reverse σ h1 else .stuck

section
variable {X : Cx} {W : WX} {K : KW} {ρ ρ' : List Addr} {H H' : Hp} {h : AH} {τ : St}
theorem rkv_zip {names : List Str} {xs : List PV} {vs : List V} (hl : xs.length = names.length) (r : RVs K ρ H xs vs) : RKV K ρ H (names.zip xs).reverse (names.zip vs).reverse := by
  have l2 := r.len
  refine ⟨?_, ?_⟩
  · rw [List.map_reverse, List.map_reverse, List.map_fst_zip (by omega), List.map_fst_zip (by omega)]
  · rw [List.map_reverse, List.map_reverse, List.map_snd_zip (by omega), List.map_snd_zip (by omega)]
    exact r.reverse
theorem js_raise {C : Addr} {names : List Str} {x : Str} {e : Expr} {es : List Expr} {l : AL} {p pos pos' : Pos} (T : ErrT X.prog X.w X.K X.mg X.base x C names) (hr : Room 2 X.A) (hc : X.calm = true) (tk : Takes X W) (ha : JA X W (e :: es) l) (hg : Gl X x := by rfl)
    (hdb : (x == ("__debug__" : Str)) = false := by decide) (he : starEach (e :: es) X.env = (false, eval e X.env) :: starEach es X.env := by rfl) (hpl : (backTo pos (starEach es X.env)).any (·.1) = false := by rfl) :
    JS X W (.Raise (some (.Call (.Name x p) (e :: es) [] pos)) none pos') (sRaise C names l) := by
  obtain ⟨fI, fd, ps, iC, tI, F1, hb⟩ := T.ini
  refine ⟨PSmono (ps_raise hc tk (pmk_oex (CX := L2.CX X.prog X.w) (dvs := []) T.ec.x iC tI F1 hr hb .nil (pass_none tk) hg T.g ha.pa hdb he hpl)) fun D τ H ⟨ρ, h, σ, R, S, o⟩ => ?_⟩
  refine ⟨ρ, h, σ, R, S, ?_⟩
  refine (OutS.lift (R := RVs (cxKW X)) S o).mono fun vs H1 ⟨ρ1, xs, h1, e1, R1, r1, o1⟩ => ?_
  split at o1
  · rename_i hxs
    have hlv := r1.len
    refine ⟨by have := T.len; omega, fun a hna => ?_⟩
    refine ⟨a, vs, by rw [List.append_nil], by omega, upd_same, fun dx H2 hdx hne ha2 hd2 hoth => ?_⟩
    have hdx1 : H1 dx = none := by rw [upd_ne hne] at hdx; exact hdx
    refine ⟨rfl, dx, _, ha2, hd2, hdx1, ?_⟩
    have eH : upd (L2.del H2 a) dx (.xd (names.zip vs).reverse) = upd H1 dx (.xd (names.zip vs).reverse) := by
      funext b
      by_cases hb : b = dx
      · rw [hb, upd_same, upd_same]
      · rw [upd_ne hb, upd_ne hb]
        by_cases hba : b = a
        · rw [hba, L2.del_same, hna]
        · rw [L2.del_ne hba, hoth b hba hb, upd_ne hba]
    rw [eH]
    have e2 : Ext ρ1 H1 ρ1 (upd H1 dx (.xd (names.zip vs).reverse)) := Ext.fresh hdx1
    exact o1 ρ1 τ _ dx e2 (R1.fresh hdx1) ((S.mono e1).mono e2) ⟨R1.notin hdx1, _, upd_same, (rkv_zip hxs r1).mono e2⟩
  · exact o1.elim
end

/-! ### isinstance of a caught error -/
end AB
namespace PySem.W
open PySem PySem.Spec PySem.Calls PyProof.Rows
open L2 (ExcC)
theorem kin_cls {prog : Program} {w : World} {A : Around} {E : Value → Shared → Prop} {s : Shared} {K : Frag} {x D : Addr} {ox : Obj} {od : Option Obj} {Q : Option Value → Shared → Prop} (C : ExcC K D)
    (X : K.In s.heap) (I : InstAt s.heap x ox D od) (h : Q (some (.ref D)) { s with toks := s.toks + 1 }) : wpAny (model prog w) A (getAttr? (.ref x) "__class__") Q E s := by
  have hf : findObj K D od "__class__" = some (.bind (.builtin "getset_descriptor.__get__") (.builtin "object.__class__")) := by
    obtain ⟨cd, hc, _⟩ := any_some C.hd
    unfold findObj
    rw [hc, Option.bind_some, C.ha, Option.bind_some]
    simp [C.hn, C.ht]
  obtain ⟨hp, g, d, t, os⟩ := s
  have L0 := I.type (M := model prog w)
  have L1 := looks_findIn (M := model prog w) X C.hg
  have L2 := looks_findIn (M := model prog w) X C.hk
  have L3 := looks_find (M := model prog w) X I hf
  have sub : Looks (model prog w) hp (isInstance (.ref x) (.type "BaseException")) true := L0.andThen (looks_subIn X C.hs)
  have hx0 : (false && onTheHeap (Value.builtin "BaseException.__getattribute__")) = false := rfl
  have hx2 : (Value.builtin "BaseException.__getattribute__" == Value.builtin "object.__getattribute__") = false := by decide +kernel
  have hx1 : (onTheHeap (Value.ref D) && Value.builtin "BaseException.__getattribute__" == Value.builtin "object.__getattribute__") = false := by rw [hx2]; rfl
  unfold getAttr? getAttrBy? getAttrBy
  refine wpAny_bind (wpAny_mkText (wpAny_bind (wpAny_attempt (wpAny_holding (wpAny_bind (L0.at (wpAny_bind (L1.at ?_))))))))
  show wpAny _ _ (if (onTheHeap (Value.ref D) && Value.builtin "BaseException.__getattribute__" == Value.builtin "object.__getattribute__") = true then _ else _) _ _ _
  rw [hx1, if_neg Bool.false_ne_true]
  unfold getAttrByItsOwn hookBefore
  refine wpAny_bind ?_
  rw [if_pos (show onTheHeap (Value.ref D) = true from rfl)]
  refine L2.at ?_
  refine wpAny_bind (wpAny_attempt (wpAny_holding ?_))
  unfold callGetattribute
  rw [hx0, if_neg Bool.false_ne_true]
  unfold boundAndCalled
  rw [PySem.F.excAttr_ValueError.ga.bind (.ref x)]
  refine wpAny_bind (wpAny_pure ?_)
  show wpAny _ _ (call (.builtin "BaseException.__getattribute__") [.ref x, .str "__class__" t]) _ _ _
  refine wpAny_call (codeAny_call_builtin PySem.F.excAttr_ValueError.ga.plain PySem.F.entry_bexc_ga ?_)
  refine @check_slot (model prog w) _ _ ⟨hp, g, d, t + 1, os⟩ "BaseException.__getattribute__" "BaseException" "__getattribute__" (.ref x) [.str "__class__" t] [] _ (by decide +kernel) (by decide +kernel) sub (PySem.F.args_bexc_ga (.ref x) (.str "__class__" t)) ?_
  unfold Builtin.«object.__getattribute__»
  refine wpAny_bind (wpAny_of_eq (a := ((Value.ref x : Value), [Value.str "__class__" t])) (by first | rfl | (simp only [slotArgs]; rfl)) ?_)
  refine wpAny_bind (wpAny_pure (wpAny_bind (L0.at (wpAny_bind (L3.at ?_)))))
  show wpAny _ _ (holding [Value.builtin "object.__class__"] (call (.builtin "getset_descriptor.__get__") [.builtin "object.__class__", .ref x, .ref D]) >>= ret) _ _ _
  refine wpAny_bind (wpAny_holding (wpAny_call (class_get (s := ⟨hp, g, d, t + 1, os⟩) (ox := ox) (od := od) X I C.hm ?_)))
  refine wpAny_pure ?_
  show wpAny _ _ (handedOut (.ref D)) _ _ _
  rw [handedOut_of (v := .ref D) rfl]
  first
    | exact wpAny_pure (wpAny_pure h)
    | exact wpAny_pure h
    | exact wpAny_pure (wpAny_bind (wpAny_pure (wpAny_pure h)))
end PySem.W
namespace AB
open PySem PySem.Spec
open PyProof.Rows hiding St
open L2 NdefX
section
variable {X : Cx} {a D dd : Addr} {oe : Obj}
theorem kit_exc {K : PySem.W.Frag} {x D : Addr} {ox : Obj} (C : ExcC K D) : PySem.W.KitX K (.ref x) (.ref D) (fun h => ∃ od, PySem.W.InstAt h x ox D od) where
  ty := fun _ _ _ I => I.choose_spec.type
  it := fun _ _ X _ => by
    obtain ⟨cdD, hcD, _⟩ := PySem.W.any_some C.hd
    unfold PySem.W.clsIn at hcD
    split at hcD
    · rename_i c' d' cd' sl' ho
      intro A' Q' E' s' k q
      unfold isType loadHead
      exact wpAny_bind (wpAny_loadPart (k _ _ (X _ _ ho)) (wpAny_pure q))
    · cases hcD
  ne := (PySem.W.handS_kitx_exc (x := x) (ox := ox) C.hg C.hk C.hs C.hd C.ha C.hn C.ht C.hm).ne
  ca := fun X I k => PySem.W.kin_cls C X I.choose_spec k
/-- isinstance(e, c), e the error that the suite holds -/
def rIs2 (K : PySem.W.Frag) (D a dd : Addr) : List V → Hp → VK → Prop := fun xs H Q => ∃ (c : Addr) (b : Bool) (fs : List (Str × V)), xs = [.ref a, .ref c] ∧ H dd = some (.xd fs) ∧ PySem.W.kitOne K (.ref D) (.ref c) = some b ∧ Q (.bl b) H
theorem call_is2 {pn : List (Addr × Obj)} (C : ExcC X.K D) (hz : Zc (.ref D) (some dd) oe) (hf : ∃ vs, oe.data = .fields vs) : CallR (X.suite a ((a, oe) :: pn)) (.builtin "isinstance") (rIs2 X.K D a dd) := by
  intro pins s σ H xs us Q I r h
  obtain ⟨c, b, fs, rfl, hdd, e, q⟩ := h
  cases r with
  | cons rx rr =>
    cases rr with
    | cons rt rr =>
      cases rr
      cases rx
      cases rt
      obtain ⟨hget, _⟩ := I.pin (a, oe) (List.mem_append.mpr (.inl List.mem_cons_self))
      obtain ⟨vs, hv⟩ := hf
      have hx : ObjOk X.prog X.w H s.heap dd (.xd fs) := I.hok dd _ hdd
      obtain ⟨mA, hns, hr⟩ := hx
      obtain ⟨od, ho, hl⟩ := lookIn_ns hns
      have J : PySem.W.InstAt s.heap a oe D (some od) := ⟨hget, hz.1, by unfold PySem.W.notCls; rw [hv] <;> rfl, by rw [hz.2]; exact ho⟩
      exact PySem.W.kia_one (kit_exc C) I.kIn ⟨_, J⟩ e (fun z => nomatch z) fun tk => ⟨.bl b, H, I.kept (t' := tk) fun _ _ z => z, rfl, q⟩
end
end AB

/-! AB19: the suite of except X as e, and the try statement -/
namespace AB
open PySem PySem.Spec
open PyProof.Rows hiding St
open L2 NdefX

abbrev WN : WX := fun _ _ _ _ => False
/-- the suite's knowledge: slot i is the error at a, whose dict at d holds fs -/
def XF (K : KW) (i : Nat) (a d : Addr) (fs : List (Str × PV)) (ρ : List Addr) (τ : St) (H : Hp) : Prop := τ[i]? = some (some (.ref a)) ∧ XD K ρ H d fs
section
variable {K : KW} {i : Nat} {a d : Addr} {fs : List (Str × PV)} {ρ ρ' : List Addr} {τ : St} {H H' : Hp}
theorem XD.mono (x : XD K ρ H d fs) (e : Ext ρ H ρ' H') : XD K ρ' H' d fs := by
  obtain ⟨n, vs, hv, r⟩ := x
  obtain ⟨h', n'⟩ := e.old _ _ hv n
  exact ⟨n', vs, h', r.mono e⟩
theorem XF.mono (x : XF K i a d fs ρ τ H) (e : Ext ρ H ρ' H') : XF K i a d fs ρ' τ H' := ⟨x.1, x.2.mono e⟩
end
section
variable (K : KW) (i : Nat) (a d : Addr) (fs : List (Str × PV))
def XE1 (m : AE) : TE := fun τ H Q => ∃ ρ h σ, Rep K ρ h H ∧ RS K ρ H σ τ ∧ XF K i a d fs ρ τ H ∧ OutE K WN ρ τ H (m σ h) Q
def XT1 (m : AT) : TT := fun τ H Q => ∃ ρ h σ, Rep K ρ h H ∧ RS K ρ H σ τ ∧ XF K i a d fs ρ τ H ∧ OutT K WN ρ τ H (m σ h) Q
def XL1 (m : AL) : TA := fun τ H Q => ∃ ρ h σ, Rep K ρ h H ∧ RS K ρ H σ τ ∧ XF K i a d fs ρ τ H ∧ OutL K WN ρ τ H (m σ h) Q
end
structure XC where
  i : Nat
  a : Addr
  d : Addr
  oe : Obj
  pn : List (Addr × Obj)
  c : Addr
  fs : List (Str × PV)
abbrev XC.cx (Y : XC) (X : Cx) : Cx := X.suite Y.a ((Y.a, Y.oe) :: Y.pn)
structure XC.Ok (Y : XC) (X : Cx) (n : Str) : Prop where
  z : Zc (.ref Y.c) (some Y.d) Y.oe
  f : ∃ vs, Y.oe.data = .fields vs
  ix : X.N[Y.i]? = some n
  v : Vis X.env.scope n
structure JX (X : Cx) (Y : XC) (e : Expr) (m : AE) : Prop where
  pe : PE (Y.cx X) e (XE1 (cxKW X) Y.i Y.a Y.d Y.fs m)
structure JXT (X : Cx) (Y : XC) (e : Expr) (m : AT) : Prop where
  pt : PT (Y.cx X) e (XT1 (cxKW X) Y.i Y.a Y.d Y.fs m)
structure JXW (X : Cx) (Y : XC) (e : Expr) (m : AT) : Prop where
  pw : PW (Y.cx X) e (XT1 (cxKW X) Y.i Y.a Y.d Y.fs m)
structure JXA (X : Cx) (Y : XC) (es : List Expr) (m : AL) : Prop where
  pa : PA (Y.cx X) es (XL1 (cxKW X) Y.i Y.a Y.d Y.fs m)
/-- e.f of the error -/
def aXf (fs : List (Str × PV)) (f : Str) : AE := fun _ h => match fs.lookup f with
  | some x => .ok x h
  | none => .stuck
/-- isinstance(e, C) of the error of class c: by the table -/
def tXi (c : Addr) (tb : List (Addr × Bool)) : AT := fun _ h => match tb.lookup c with
  | some b => .ok b h
  | none => .stuck

section
variable {X : Cx} {Y : XC} {e : Expr} {es : List Expr} {pos : Pos}
theorem jx_of {m : AE} (h : JE (Y.cx X) WN e m) : JX X Y e m := ⟨PEmono h.pe fun τ H Q ⟨ρ, h, σ, R, S, _, o⟩ => ⟨ρ, h, σ, R, S, o⟩⟩
theorem rkv_get {K : KW} {ρ : List Addr} {H : Hp} : ∀ {fs : List (Str × PV)} {vs : List (Str × V)} {f : Str} {x : PV}, RKV K ρ H fs vs → fs.lookup f = some x → ∃ v, vs.lookup f = some v ∧ RV K ρ H x v := by
  intro fs
  induction fs with
  | nil => intro vs f x r e; cases e
  | cons p fs ih =>
    intro vs f x r e
    obtain ⟨k, y⟩ := p
    cases vs with
    | nil => have := r.keys; simp at this
    | cons q vs =>
      obtain ⟨k2, v⟩ := q
      have hk : k2 = k := (List.cons.inj (show k2 :: vs.map (·.1) = k :: fs.map (·.1) from r.keys)).1
      subst hk
      obtain ⟨v', vs', e1, r1, r2⟩ := RVs.cons_inv r.vals
      cases e1
      rw [List.lookup_cons] at e ⊢
      by_cases hf : f == k2
      · rw [hf] at e ⊢
        cases e
        exact ⟨v, rfl, r1⟩
      · have hf' : (f == k2) = false := by simpa using hf
        rw [hf'] at e ⊢
        exact ih ⟨(List.cons.inj (show k2 :: vs.map (·.1) = k2 :: fs.map (·.1) from r.keys)).2, r2⟩ e
theorem jx_fld {n f : Str} {p : Pos} (T : XfC X.K Y.c) (hno : PySem.W.findIn X.K (.ref Y.c) f = some none) (y : Y.Ok X n) (hdb : (n == ("__debug__" : Str)) = false := by decide) (hcd : (n == ("__classdict__" : Str)) = false := by decide)
    (hb : attributeBase (.Name n p) f X.env (eval (.Name n p) X.env) = eval (.Name n p) X.env := by rfl) : JX X Y (.Attribute (.Name n p) f pos) (aXf Y.fs f) := by
  refine ⟨PEmono (pe_xf (d := some Y.d) T hno y.z y.f (pe_var (X := Y.cx X) (i := Y.i) y.ix y.v hdb hcd) hb) fun τ H Q ⟨ρ, h, σ, R, S, x, o⟩ => ?_⟩
  refine ⟨.ref Y.a, x.1, rfl, rfl, ?_⟩
  obtain ⟨_, vs, hv, r⟩ := x.2
  unfold aXf at o
  split at o
  · rename_i y' e'
    obtain ⟨v, e2, r2⟩ := rkv_get r e'
    exact ⟨Y.d, vs, v, rfl, hv, e2, o ρ H v .refl R r2⟩
  · exact o.elim
theorem jxa_nil : JXA X Y [] aNil := ⟨PAmono pa_nil fun τ H Q ⟨ρ, h, σ, R, S, _, o⟩ => Out.done o R RVs.nil⟩
theorem jxa_cons {m : AE} {r : AL} (ha : JX X Y e m) (hr : JXA X Y es r) (hs : starEach (e :: es) X.env = (false, eval e X.env) :: starEach es X.env := by rfl) : JXA X Y (e :: es) (aCons m r) :=
  ⟨PAmono (pa_cons (X := Y.cx X) ha.pe hr.pa hs) fun τ H Q ⟨ρ, h, σ, R, S, z, o⟩ => ⟨ρ, h, σ, R, S, z, (Out.bind (R := RV (cxKW X)) o).mono fun x H1 ⟨ρ1, v, h1, e1, R1, q1, o1⟩ =>
    ⟨ρ1, h1, σ, R1, S.mono e1, z.mono e1, (Out.bind (R := RVs (cxKW X)) o1).mono fun xs H2 ⟨ρ2, vs, h2, e2, R2, q2, o2⟩ => Out.done o2 R2 (.cons (q1.mono e2) q2)⟩⟩⟩
theorem jx_tup {l : AL} {k : Nat} (h : JXA X Y es l) : JX X Y (.Tuple es k pos) (aTup l) :=
  ⟨PEmono (pe_tup h.pa) fun τ H Q ⟨ρ, h, σ, R, S, z, o⟩ => ⟨ρ, h, σ, R, S, z, (Out.bind (R := RVs (cxKW X)) o).mono fun xs H1 ⟨ρ1, vs, h1, e1, R1, q1, o1⟩ => by
    split at o1
    · rename_i hz; exact ⟨by rw [q1.len]; exact hz, new_tup R1 q1 o1⟩
    · exact o1.elim⟩⟩
theorem jx_if {c a b : Expr} {mc : AT} {ma mb : AE} (hc : JXT X Y c mc) (ha : JX X Y a ma) (hb : JX X Y b mb) : JX X Y (.IfExp c a b pos) (aIf mc ma mb) :=
  ⟨PEmono (pe_ifExp hc.pt ha.pe hb.pe) fun τ H Q ⟨ρ, h, σ, R, S, z, o⟩ => ⟨ρ, h, σ, R, S, z, (Out.bind (R := fun _ _ (a b : Bool) => a = b) o).mono fun x H1 ⟨ρ1, v, h1, e1, R1, q1, o1⟩ => by
    subst q1
    cases v with
    | true => rw [if_pos rfl] at o1 ⊢; exact ⟨ρ1, h1, σ, R1, S.mono e1, z.mono e1, o1⟩
    | false => rw [if_neg Bool.false_ne_true] at o1 ⊢; exact ⟨ρ1, h1, σ, R1, S.mono e1, z.mono e1, o1⟩⟩⟩
theorem jxt_not {a : Expr} {ma : AT} (ha : JXT X Y a ma) : JXT X Y (.UnaryOp .Not a pos) (tNot ma) :=
  ⟨PTmono (pt_not ha.pt) fun τ H Q ⟨ρ, h, σ, R, S, z, o⟩ => ⟨ρ, h, σ, R, S, z, (Out.bind (R := fun _ _ (a b : Bool) => a = b) o).mono fun x H1 ⟨ρ1, v, h1, e1, R1, q1, o1⟩ => by
    subst q1; exact Out.done o1 R1 rfl⟩⟩
theorem jxt_bool {m : AT} (h : JXW X Y e m) : JXT X Y e m := ⟨h.pw.pt⟩
theorem jxw_and1 {a : Expr} {ma : AT} (ha : JXT X Y a ma) : JXW X Y (.BoolOp .And [a] pos) ma := ⟨pw_and1 ha.pt⟩
theorem jxw_or1 {a : Expr} {ma : AT} (ha : JXT X Y a ma) : JXW X Y (.BoolOp .Or [a] pos) ma := ⟨pw_or1 ha.pt⟩
theorem jxw_and {a b : Expr} {rest : List Expr} {ma mb : AT} (ha : JXT X Y a ma) (hb : JXW X Y (.BoolOp .And (b :: rest) pos) mb) : JXW X Y (.BoolOp .And (a :: b :: rest) pos) (tAnd ma mb) :=
  ⟨PWmono (pw_and ha.pt hb.pw) fun τ H Q ⟨ρ, h, σ, R, S, z, o⟩ => ⟨ρ, h, σ, R, S, z, (Out.bind (R := fun _ _ (a b : Bool) => a = b) o).mono fun x H1 ⟨ρ1, v, h1, e1, R1, q1, o1⟩ => by
    subst q1
    cases v with
    | true => rw [if_pos rfl] at o1 ⊢; exact ⟨ρ1, h1, σ, R1, S.mono e1, z.mono e1, o1⟩
    | false => rw [if_neg Bool.false_ne_true] at o1 ⊢; exact Out.done o1 R1 rfl⟩⟩
theorem jxw_or {a b : Expr} {rest : List Expr} {ma mb : AT} (ha : JXT X Y a ma) (hb : JXW X Y (.BoolOp .Or (b :: rest) pos) mb) : JXW X Y (.BoolOp .Or (a :: b :: rest) pos) (tOr ma mb) :=
  ⟨PWmono (pw_or ha.pt hb.pw) fun τ H Q ⟨ρ, h, σ, R, S, z, o⟩ => ⟨ρ, h, σ, R, S, z, (Out.bind (R := fun _ _ (a b : Bool) => a = b) o).mono fun x H1 ⟨ρ1, v, h1, e1, R1, q1, o1⟩ => by
    subst q1
    cases v with
    | false => rw [if_neg Bool.false_ne_true] at o1 ⊢; exact ⟨ρ1, h1, σ, R1, S.mono e1, z.mono e1, o1⟩
    | true => rw [if_pos rfl] at o1 ⊢; exact Out.done o1 R1 rfl⟩⟩
/-- isinstance(e, C): tb by class -/
theorem jxt_is {n x : Str} {C : Addr} {tb : List (Addr × Bool)} {p p1 p2 : Pos} (T : ExcC X.K Y.c) (y : Y.Ok X n) (ht : ∀ b, tb.lookup Y.c = some b → PySem.W.kitOne X.K (.ref Y.c) (.ref C) = some b) (hm : X.mg "isinstance" = none) (hx : X.mg x = some (.ref C)) (hgx : Gl X x := by rfl) (hg : Gl X "isinstance" := by rfl)
    (hdx : (x == ("__debug__" : Str)) = false := by decide) (hdb : (n == ("__debug__" : Str)) = false := by decide) (hcd : (n == ("__classdict__" : Str)) = false := by decide)
    (he : starEach [.Name n p1, .Name x p2] X.env = (false, eval (.Name n p1) X.env) :: starEach [.Name x p2] X.env := by rfl) (hpl : (backTo pos (starEach [.Name x p2] X.env)).any (·.1) = false := by rfl)
    (ht0 : ∀ whole, isTrue (.Call (.Name "isinstance" p) [.Name n p1, .Name x p2] [] pos) X.env whole = (do let v ← whole; standAt pos; holding [v] (truthy v)) := by intro _; rfl) :
    JXT X Y (.Call (.Name "isinstance" p) [.Name n p1, .Name x p2] [] pos) (tXi Y.c tb) := by
  have pa : PA (Y.cx X) [.Name n p1, .Name x p2] (tCons (tVar Y.i) (tCons (tC (.ref C)) tNil)) := pa_cons (pe_var (X := Y.cx X) y.ix y.v hdb hcd) (pa_cons (pe_glob (X := Y.cx X) hgx hx rfl hdx) pa_nil)
  refine ⟨PTmono (pt_val (pe_callB (X := Y.cx X) (call_is2 (dd := Y.d) T y.z y.f) hg hm (by rfl) pa (by decide) (by decide) he hpl) ht0) fun τ H Q ⟨ρ, h, σ, R, S, z, o⟩ => ?_⟩
  refine ⟨.ref Y.a, z.1, ?_⟩
  obtain ⟨_, vs, hv, r⟩ := z.2
  unfold tXi at o
  split at o
  · rename_i b eb
    exact ⟨C, b, vs, rfl, hv, ht b eb, b, rfl, o ρ H b .refl R rfl⟩
  · exact o.elim
end

/-- try: body, except X as e: return E; hits: the classes that it takes -/
def sTry (i : Nat) (hits : List Addr) (mb : AS) (mE : Addr → List (Str × PV) → AE) : AS := fun σ h => match mb σ h with
  | .exc c fs σ1 h1 => if c ∈ hits ∧ i < σ1.length then (match mE c fs (σ1.set i none) h1 with
      | .ok v h2 => .fin (.rt v) (σ1.set i none) h2
      | _ => .stuck) else .stuck
  | r => r
section
variable {X : Cx} {W : WX} {x n : Str} {cv : Value} {i : Nat} {body : List Stmt} {E : Expr} {np rp pos pos' : Pos} {mb : AS} {hits : List Addr} {mE : Addr → List (Str × PV) → AE}
theorem js_try (hs : X.stack = X.env :: X.outer) (hf : X.env.frame = some X.env.locals) (hN : X.N.Nodup) (hi : X.N[i]? = some n) (hln : X.env.kindOf n = some .local) (hc : Names X x cv) (tk : Takes X W)
    (hb : ∀ (W : WX) (pn : List (Addr × Obj)) (xe : Value → Shared → Prop), Takes (X.tr pn xe) W → PassesOwn (model X.prog X.w) X.A X.env xe → JSs (X.tr pn xe) W body mb)
    (hh : ∀ c ∈ hits, PySem.W.exmOne X.K (.ref c) cv = some true) (hE : ∀ Y : XC, Y.i = i → Y.c ∈ hits → Y.Ok X n → JX X Y E (mE Y.c Y.fs)) :
    JS X W (.Try body [.ExceptHandler (some (.Name x np)) (some n) [.Return (some E) rp] pos'] [] [] pos) (sTry i hits mb mE) := by
  refine ⟨PSmono (ps_try_as (Wout := W) (i := i) (c := cv) (tb := fun W' => LS (cxKW X) W' mb) (ts := fun a cls d D τ H => ∃ c dd fs, cls = .ref c ∧ d = some dd ∧ c ∈ hits ∧ XE1 (cxKW X) i a dd fs (mE c fs) τ H (fun v H' => D.rt v H')) hs hf hN hi hln hc tk (fun W pn xe t p => (hb W pn xe t p).pss) (fun a oe cls d pn hz hf' => ?_)) fun D τ H ⟨ρ, h, σ, R, S, o⟩ => ?_⟩
  · refine ⟨fun pins s σ H D I ⟨c, dd, fs, hcls, hd, hit, q⟩ => ?_⟩
    subst hcls
    subst hd
    have y : XC.Ok ⟨i, a, dd, oe, pn, c, fs⟩ X n := ⟨hz, hf', hi, .inl hln⟩
    exact (pss_one (ps_ret (hE ⟨i, a, dd, oe, pn, c, fs⟩ rfl hit y).pe)).run pins s σ H D I q
  · refine ⟨ρ, h, σ, R, S, ?_⟩
    unfold sTry at o
    cases r : mb σ h with
    | fin fl σ1 h1 => rw [r] at o; cases fl <;> exact o
    | stuck => rw [r] at o; exact o.elim
    | exc c fs σ1 h1 =>
      rw [r] at o
      dsimp only at o
      split at o
      · rename_i hit
        intro ρ' τ' H' d e R' S' xd
        refine ⟨true, hh c hit.1, fun _ a hna => ?_, fun z => nomatch z⟩
        refine ⟨c, d, fs, rfl, rfl, hit.1, ρ', h1, σ1.set i none, R', S'.unset i _, ⟨?_, xd⟩, ?_⟩
        · rw [List.getElem?_set_self (by rw [S'.len]; exact hit.2)]
        · cases q : mE c fs (σ1.set i none) h1 with
          | ok v h2 =>
            rw [q] at o
            exact fun ρ2 H2 y e2 R2 r2 => o ρ2 y H2 (e.trans e2) R2 r2
          | exc _ _ _ => rw [q] at o; exact o.elim
          | stuck => rw [q] at o; exact o.elim
      · exact o.elim
end
end AB

/-! AB20: what the written part says of the own errors, as facts -/
namespace AB
open PySem PySem.Spec
open PyProof.Rows hiding St
open L2 NdefX
def clsBody : Stmt → List Stmt
  | .ClassDef (body := b) .. => b
  | _ => []
/-- the n-th statement of a class -/
def clsSt (st : Stmt) (n : Nat) : Stmt := (clsBody st).getD n (.Pass ⟨0, 0, 0, 0⟩)
/-- the class's __init__, as it stands -/
structure InitK (P : Program) (K : PySem.W.Frag) (C : Addr) (st : Stmt) : Prop where
  ex : ∃ (f cc c : Addr) (doc pm ctv oc occ coc : Value) (od odc cod : Option Addr) (osl slc cosl : Array (Option Value)) (cvs : Array Value) (file : Str) (tf : Tok) (q : Str),
    PySem.W.findIn K (.ref C) "__init__" = some (some (.ref f)) ∧ PySem.W.typeIn K (.ref f) = some (.type "function") ∧ K.lookup f = some ⟨oc, od, .func (PySem.W.fnX "__init__" q (defArgs st) (defBody st) (defScope st) [(("__class__" : Str), cc)] .none .none doc pm none (.ref c) ctv), osl⟩ ∧
    K.lookup cc = some ⟨occ, odc, .cell (some (.ref C)), slc⟩ ∧ PySem.W.codeIn K (.ref c) q = true ∧ K.lookup c = some ⟨coc, cod, .fields cvs, cosl⟩ ∧ cvs[2]? = some (.str file tf) ∧ ((P.main.file : Str) == file) = true
theorem all1 {p : Addr → Prop} {c0 : Addr} (h : p c0) : ∀ c ∈ [c0], p c := fun c hc => by rw [List.mem_singleton.mp hc]; exact h
theorem allC {p : Addr → Prop} {c0 : Addr} {l : List Addr} (h : p c0) (t : ∀ c ∈ l, p c) : ∀ c ∈ c0 :: l, p c := fun c hc => by
  rcases List.mem_cons.mp hc with rfl | hc
  · exact h
  · exact t c hc
theorem tbN {p : Addr → Bool → Prop} : ∀ (c : Addr) (b : Bool), ([] : List (Addr × Bool)).lookup c = some b → p c b := fun c b h => by cases h
theorem tbC {p : Addr → Bool → Prop} {c0 : Addr} {b0 : Bool} {l : List (Addr × Bool)} (h : p c0 b0) (t : ∀ (c : Addr) (b : Bool), l.lookup c = some b → p c b) : ∀ (c : Addr) (b : Bool), ((c0, b0) :: l).lookup c = some b → p c b := fun c b e => by
  rw [List.lookup_cons] at e
  by_cases hc : c == c0
  · rw [hc] at e
    cases e
    rw [beq_iff_eq.mp hc]
    exact h
  · have : (c == c0) = false := by simpa using hc
    rw [this] at e
    exact t c b e
/-- ErrC by looking -/
def errB (K : PySem.W.Frag) (C : Addr) : Bool :=
  (match K.lookup C with
    | some ⟨.type "type", _, .cls cd, sl⟩ => (match cd.mro, sl with
        | .ref C' :: bm, ⟨[_, _, _, _, some (.builtin "ValueError.__new__"), _]⟩ => C' == C && PySem.HandSPX.refsVE bm && cd.hasDict && !cd.hasDel
        | _, _ => false)
    | _ => false)
  && PySem.W.findIn K (.ref C) "__setattr__" == some (some (.builtin "object.__setattr__")) && PySem.W.subIn K (.ref C) (.type "BaseException") == some true && PySem.W.typeIn K (.ref C) == some (.type "type") && PySem.W.keepIn K (.ref C)
  && PySem.W.nsIn K PySem.cStatics "thirdparty.any" == some none && PySem.W.subIn K (.ref C) (.ref C) == some true && PySem.W.ks_superIn K C C "__init__" == some (some (.builtin "ValueError.__init__")) && PySem.W.subIn K (.ref C) (.type "ValueError") == some true
theorem errB_ok {K : PySem.W.Frag} {C : Addr} (h : errB K C = true) : ErrC K C := by
  unfold errB at h
  simp only [Bool.and_eq_true, beq_iff_eq] at h
  obtain ⟨⟨⟨⟨⟨⟨⟨⟨h0, h1⟩, h2⟩, h3⟩, h4⟩, h5⟩, h6⟩, h7⟩, h8⟩ := h
  refine ⟨⟨?_, h1, h2, h3, h4⟩, h5, h6, h7, h8⟩
  split at h0
  · rename_i d cd sl e
    split at h0
    · rename_i C' bm k0 k1 k2 k3 k5 em
      simp only [Bool.and_eq_true, beq_iff_eq, Bool.not_eq_true'] at h0
      obtain ⟨⟨⟨hC, hv⟩, hd⟩, hl⟩ := h0
      subst hC
      obtain ⟨nm, bs, mro, ns, qn, hdd, sn, sb, ab, col, del⟩ := cd
      dsimp only at em hd hl
      subst em hd hl
      exact ⟨nm, qn, ns, bs, bm, sn, sb, ab, col, d, k0, k1, k2, k3, k5, e, hv⟩
    · cases h0
  · cases h0
/-- ExcC by looking -/
def excB (K : PySem.W.Frag) (D : Addr) : Bool :=
  PySem.W.findIn K (.ref D) "__getattribute__" == some (some (.builtin "BaseException.__getattribute__")) && PySem.W.findIn K (.ref D) "__getattr__" == some none && PySem.W.subIn K (.ref D) (.type "BaseException") == some true && PySem.W.hasDictIn K D
  && PySem.W.findIn K (.ref D) "__class__" == some (some (.builtin "object.__class__")) && PySem.W.specialIn K (.builtin "object.__class__") "__get__" == some (some (.builtin "getset_descriptor.__get__")) && PySem.W.takesIn K (.builtin "object.__class__") == some true && PySem.W.mroIn K D (.type "object") == some true
theorem excB_ok {K : PySem.W.Frag} {D : Addr} (h : excB K D = true) : ExcC K D := by
  unfold excB at h
  simp only [Bool.and_eq_true, beq_iff_eq] at h
  obtain ⟨⟨⟨⟨⟨⟨⟨h0, h1⟩, h2⟩, h3⟩, h4⟩, h5⟩, h6⟩, h7⟩ := h
  exact ⟨h0, h1, h2, h3, h4, h5, h6, h7⟩
end AB

namespace AB
open PySem PySem.Spec
open PyProof.Rows hiding St
open L2
/-! zip of two tuples, of two lists -/
def itZip (xs ys : List PV) : AI := ⟨min xs.length ys.length, fun i _ => match xs[i]?, ys[i]? with
  | some x, some y => some (some (.tup [x, y]))
  | _, _ => some none⟩
def itZipL (a b : AI) : AI := ⟨min a.n b.n, fun i h => match a.nxt i h, b.nxt i h with
  | some (some x), some (some y) => some (some (.tup [x, y]))
  | some none, some _ => some none
  | some _, some none => some none
  | _, _ => none⟩
def aItZ (l : AL) : AIt := fun σ h => (l σ h).bind fun xs h1 => match xs with
  | [.tup a, .tup b] => .ok (itZip a b) h1
  | [v, u] => (itL v h1).bind fun a h2 => (itL u h2).bind fun b h3 => .ok (itZipL a b) h3
  | _ => .stuck
section
variable {K : KW} {ρ0 : List Addr} {H0 : Hp}
theorem aiok_zip {xs ys : List PV} {p q : Addr} (r1 : RV K ρ0 H0 (.tup xs) (.ref p)) (r2 : RV K ρ0 H0 (.tup ys) (.ref q)) : AIok K ρ0 H0 (itZip xs ys) (RZ.ItzT K.fr p q) := fun i ρ h H e R => by
  obtain ⟨p', vs, ep, f1, q1⟩ := (r1.mono e).tup_inv
  obtain ⟨q', us, eq, f2, q2⟩ := (r2.mono e).tup_inv
  cases ep; cases eq
  have l1 := q1.len
  have l2 := q2.len
  unfold itZip
  dsimp only
  cases c1 : xs[i]? with
  | none =>
    exact ⟨vs, us, f1.sq, f2.sq, .inl (by have := List.getElem?_eq_none_iff.mp c1; omega)⟩
  | some x =>
    cases c2 : ys[i]? with
    | none => exact ⟨vs, us, f1.sq, f2.sq, .inr (by have := List.getElem?_eq_none_iff.mp c2; omega)⟩
    | some y =>
      obtain ⟨v, ev, rv⟩ := q1.get c1
      obtain ⟨u, eu, ru⟩ := q2.get c2
      refine ⟨⟨vs, us, v, u, f1.sq, f2.sq, ev, eu⟩, fun w H' ⟨T, v', u', e1, hT, e2, g1, g2⟩ => ?_⟩
      have k1 := g1 vs f1.sq
      have k2 := g2 us f2.sq
      rw [ev] at k1; cases k1
      rw [eu] at k2; cases k2
      subst e1; subst e2
      exact tup2_ok R hT rv ru
theorem aiok_zipL {a b : AI} {p q : Addr} (k1 : AIok K ρ0 H0 a (Itl K.fr p)) (k2 : AIok K ρ0 H0 b (Itl K.fr q)) : AIok K ρ0 H0 (itZipL a b) (Itz K.fr p q) := fun i ρ h H e R => by
  have q1 := k1 i ρ h H e R
  have q2 := k2 i ρ h H e R
  unfold itZipL
  dsimp only
  cases c1 : a.nxt i h with
  | none => trivial
  | some o1 =>
    cases c2 : b.nxt i h with
    | none => cases o1 <;> trivial
    | some o2 =>
      rw [c1] at q1; rw [c2] at q2
      cases o1 with
      | none =>
        obtain ⟨xs, s1, l1⟩ := q1
        cases o2 with
        | none => obtain ⟨ys, s2, l2⟩ := q2; exact ⟨xs, ys, s1, s2, .inl l1⟩
        | some y => obtain ⟨⟨ys, u, s2, eu⟩, _⟩ := q2; exact ⟨xs, ys, s1, s2, .inl l1⟩
      | some x =>
        obtain ⟨⟨xs, v, s1, ev⟩, g1⟩ := q1
        cases o2 with
        | none => obtain ⟨ys, s2, l2⟩ := q2; exact ⟨xs, ys, s1, s2, .inr l2⟩
        | some y =>
          obtain ⟨⟨ys, u, s2, eu⟩, g2⟩ := q2
          refine ⟨⟨xs, ys, v, u, s1, s2, ev, eu⟩, fun w H' ⟨T, v', u', e1, hT, e2, f1, f2⟩ => ?_⟩
          have ez := f1 xs s1
          rw [ev] at ez; cases ez
          have ez2 := f2 ys s2
          rw [eu] at ez2; cases ez2
          obtain ⟨_, _, rv⟩ := g1 v H ⟨rfl, fun xs' s' => f1 xs' s'⟩
          obtain ⟨_, _, ru⟩ := g2 u H ⟨rfl, fun ys' s' => f2 ys' s'⟩
          subst e1; subst e2
          exact tup2_ok R hT rv ru
end
section
variable {X : Cx} {W : WX}
theorem itl_of {K : KW} {ρ : List Addr} {H : Hp} {h h' : AH} {v : PV} {x : V} {a : AI} (R : Rep K ρ h H) (r : RV K ρ H v x) (e : itL v h = .ok a h') : h' = h ∧ ∃ p vs, x = .ref p ∧ SqL K.fr H p vs ∧ AIok K ρ H a (Itl K.fr p) := by
  unfold itL at e
  split at e
  · rename_i xs c
    obtain ⟨p, vs, rfl, s, _⟩ := lst_of R r c
    split at e
    · cases e
      exact ⟨rfl, p, vs, rfl, s, aiok_lst r⟩
    · rename_i hv
      cases e
      refine ⟨rfl, p, vs, rfl, s, aiok_vals r fun h => ?_⟩
      cases v with
      | lst ys => exact c
      | ro ys => exact c
      | loc n => exact absurd rfl (hv n)
      | _ => cases c
  · cases e
theorem ji_zip {elts : List Expr} {kk : Nat} {tpos p pos : Pos} {e e2 : Expr} {l : AL} (hm : X.mg "zip" = none) (ha : JA X W [e, e2] l) (hg : Gl X "zip" := by rfl) (hs : starEach [e, e2] X.env = (false, eval e X.env) :: starEach [e2] X.env := by rfl) (hs2 : ((backTo pos (starEach [e2] X.env)).any fun x => x.fst) = false := by rfl) :
    JI X W (.Tuple elts kk tpos) (.Call (.Name "zip" p) [e, e2] [] pos) (aItZ l) :=
  ⟨PImono (RZ.pi_zipA hg hm ha.pa hs hs2) fun τ H Rk ⟨ρ, h, σ, R, S, o⟩ => ⟨ρ, h, σ, R, S, (Out.bind (R := RVs (cxKW X)) o).mono fun x H1 ⟨ρ1, v, h1, e1, R1, q1, o1⟩ => by
    split at o1
    · obtain ⟨w, w', rfl, r, r'⟩ := two_inv q1
      obtain ⟨p1, vs, rfl, f1, _⟩ := r.tup_inv
      obtain ⟨p2, us, rfl, f2, _⟩ := r'.tup_inv
      exact ⟨p1, p2, vs, us, rfl, .inr ⟨f1.sq, f2.sq, Out.done o1 R1 (aiok_zip r r')⟩⟩
    · rename_i v u _
      obtain ⟨w, w', rfl, r, r'⟩ := two_inv q1
      cases c1 : itL v h1 with
      | stuck => rw [c1] at o1; exact o1.elim
      | exc c fs g => unfold itL at c1; split at c1 <;> (try split at c1) <;> cases c1
      | ok a g =>
        obtain ⟨rfl, p1, vs, rfl, s1, k1⟩ := itl_of R1 r c1
        rw [c1, Res.bind_ok] at o1
        cases c2 : itL u g with
        | stuck => rw [c2] at o1; exact o1.elim
        | exc c fs g => unfold itL at c2; split at c2 <;> (try split at c2) <;> cases c2
        | ok b g2 =>
          obtain ⟨rfl, p2, us, rfl, s2, k2⟩ := itl_of R1 r' c2
          rw [c2, Res.bind_ok] at o1
          exact ⟨p1, p2, vs, us, rfl, .inl ⟨s1, s2, Out.done o1 R1 (aiok_zipL k1 k2)⟩⟩
    · exact o1.elim⟩⟩
end
end AB

namespace AB
open PySem PySem.Spec
open PyProof.Rows hiding St
open L2
/-! AB22: sorted of a list of pairs of ints, the pairs made or handed in -/
def prI (p : Int × Int) : PV := .tup [.int p.1, .int p.2]
def pairsOf : List PV → Option (List (Int × Int))
  | [] => some []
  | .tup [.int i, .int j] :: r => (pairsOf r).map ((i, j) :: ·)
  | _ :: _ => none
theorem pairsOf_map : ∀ ps : List (Int × Int), pairsOf (ps.map prI) = some ps
  | [] => rfl
  | p :: ps => by
    show (pairsOf (ps.map prI)).map _ = _
    rw [pairsOf_map ps]; rfl
theorem pairsOf_eq : ∀ {xs : List PV} {ps : List (Int × Int)}, pairsOf xs = some ps → xs = ps.map prI
  | [], ps, e => by cases e; rfl
  | x :: xs, ps, e => by
    unfold pairsOf at e
    split at e
    · rename_i h; cases h
    · rename_i i j r h
      cases h
      obtain ⟨qs, e1, rfl⟩ := Option.map_eq_some_iff.mp e
      rw [pairsOf_eq e1]; rfl
    · cases e
def rSortPT (K : PySem.W.Frag) : List V → Hp → VK → Prop := fun vs H Q => ∃ (a : Addr) (xs : List V) (ps : List (Int × Int)), vs = [V.ref a] ∧ SqL K H a xs ∧ ps.length = xs.length ∧
  (∀ (i : Nat) (x : V) (p : Int × Int), xs[i]? = some x → ps[i]? = some p → ∃ t, x = V.ref t ∧ SqT K H t [.int p.1, .int p.2]) ∧
  ∀ (zs : List (V × (Int × Int))) (d : Addr), zs.Perm (xs.zip ps) → (zs.map (·.2)).Pairwise (fun p q => SrtO.lexB q p = false) → H d = none → Q (.ref d) (upd H d (.lst (zs.map (·.1))))
theorem cr_sortPT {X : Cx} : CallR X (.builtin "sorted") (rSortPT X.K) := by
  intro pins s σ H vs us Q I r h
  obtain ⟨a, xs, ps, rfl, hs, hl, hx, q⟩ := h
  obtain ⟨its, rv, hl', hz⟩ := I.list hs
  obtain ⟨u, rfl, ru⟩ := vals1 r
  obtain rfl : u = Value.ref a := ru
  obtain ⟨e1, e2⟩ := refs_back rv fun x m => by
    obtain ⟨i, hi, e⟩ := List.getElem_of_mem m
    obtain ⟨t, e', _⟩ := hx i x (ps[i]'(by omega)) (by rw [List.getElem?_eq_getElem hi, e]) (by rw [List.getElem?_eq_getElem (by omega)])
    exact ⟨t, e'⟩
  let W : Value → Int × Int → Prop := fun u p => ∃ t, u = Value.ref t ∧ SqT X.K H t [.int p.1, .int p.2]
  obtain ⟨k, hk⟩ : ∃ k : Value → Int × Int, ∀ u p, W u p → k u = p := by
    classical
    refine ⟨fun u => if h : ∃ p, W u p then Classical.choose h else (0, 0), fun u p hp => ?_⟩
    have h : ∃ p, W u p := ⟨p, hp⟩
    show (if h : ∃ p, W u p then Classical.choose h else (0, 0)) = p
    rw [dif_pos h]
    obtain ⟨t, e, s1⟩ := Classical.choose_spec h
    obtain ⟨t', e', s2⟩ := hp
    rw [e] at e'
    cases e'
    have e3 := I.tuple_inj s1 s2
    injection e3 with e4 e5
    injection e5 with e6 _
    exact Prod.ext (V.int.inj e4) (V.int.inj e6)
  have ln : its.length = xs.length := rv.length.symm
  have wi : ∀ (i : Nat) (u : Value), its[i]? = some u → ∃ p, ps[i]? = some p ∧ W u p ∧ k u = p := fun i u eu => by
    have hi : i < its.length := (List.getElem?_eq_some_iff.mp eu).1
    have ex : xs[i]? = some (backV u) := by rw [e1, List.getElem?_map, eu]; rfl
    have ep : ps[i]? = some (ps[i]'(by omega)) := List.getElem?_eq_getElem (by omega)
    obtain ⟨t, e, sq⟩ := hx i _ _ ex ep
    obtain ⟨t', rfl⟩ := e2 u (List.mem_of_getElem? eu)
    cases e
    exact ⟨_, ep, ⟨t, rfl, sq⟩, hk _ _ ⟨t, rfl, sq⟩⟩
  have eps : ps = its.map k := List.ext_getElem? fun i => by
    rw [List.getElem?_map]
    cases c : its[i]? with
    | none => exact List.getElem?_eq_none (by have := List.getElem?_eq_none_iff.mp c; omega)
    | some u => obtain ⟨p, ep, _, ek⟩ := wi i u c; rw [ep, ← ek]; rfl
  have ezip : xs.zip ps = its.map fun u => (backV u, k u) := by rw [e1, eps]; exact List.zip_map'
  refine SrtO.sorted_pairsO (k := k) hl'.isList (by rw [← rv.length]; exact hz) (fun v hv => ?_) fun h' d out h1 h2 kp hd hn => ?_
  · obtain ⟨i, hi, e⟩ := List.getElem_of_mem hv
    obtain ⟨p, _, ⟨t, rfl, sq⟩, ek⟩ := wi i v (by rw [List.getElem?_eq_getElem hi, e])
    obtain ⟨its2, r2, ⟨o, ho, hc, n, hd⟩, _⟩ := I.tuple sq
    obtain ⟨u1, u2, rfl, ri, rj⟩ := vals2 r2
    obtain ⟨t1, rfl⟩ := ri
    obtain ⟨t2, rfl⟩ := rj
    rw [ek]
    exact ⟨t, o, t1, t2, n, rfl, ho, hc, hd⟩
  · have h3 : ∀ u ∈ out, ∃ a, u = Value.ref a := fun u hu => e2 u (h2.perm.mem_iff.mp hu)
    obtain ⟨n, hn⟩ := hn
    have hlen : (out.map backV).length = xs.length := by rw [List.length_map, h2.perm.length_eq]; exact ln
    refine ⟨.ref d, upd H d (.lst (out.map backV)), I.laid (t' := s.toks) kp hd ⟨?_, out, n, vals_back h3, hn⟩, rfl, ?_⟩
    · rw [hlen]; exact hz
    · have := q (out.map fun u => (backV u, k u)) d (by rw [ezip]; exact h2.perm.map _) (by rw [List.map_map]; exact List.pairwise_map.mpr h1) (I.hok.fresh hd)
      rw [List.map_map] at this
      exact this
def lePI (p q : Int × Int) : Bool := !SrtO.lexB q p
def fnSortA : FN
  | [v], h => match (seqOf v h).bind intsOf with
    | some ns => if ns.length < 64 then new (.lst ((ns.mergeSort (fun a b => decide (a ≤ b))).map .int)) h else .stuck
    | none => match (lstOf v h).bind pairsOf with
      | some ps => new (.lst ((ps.mergeSort lePI).map prI)) h
      | none => .stuck
  | _, _ => .stuck
theorem lePI_iff {p q : Int × Int} : lePI p q = true ↔ ¬ (q.1 < p.1 ∨ (q.1 = p.1 ∧ q.2 < p.2)) := by
  unfold lePI
  rw [Bool.not_eq_true', SrtO.lexB_no]
theorem sort_pairs {ps qs : List (Int × Int)} (p : qs.Perm ps) (s : qs.Pairwise fun p q => lePI p q = true) : qs = ps.mergeSort lePI := by
  have h2 : (ps.mergeSort lePI).Pairwise fun p q => lePI p q = true :=
    List.pairwise_mergeSort (le := lePI) (fun a b c h1 h2 => by
      rw [lePI_iff] at h1 h2 ⊢
      omega) (fun a b => by
      rw [Bool.or_eq_true, lePI_iff, lePI_iff]
      omega) ps
  exact List.Perm.eq_of_pairwise (le := fun p q => lePI p q = true) (fun a b _ _ h1 h2 => by
    rw [lePI_iff] at h1 h2
    exact Prod.ext (by omega) (by omega)) s h2 (p.trans (List.mergeSort_perm ps _).symm)
theorem j_sortA {X : Cx} : JFn X (.builtin "sorted") fnSortA := jfn (CallR.or cr_sortLT cr_sortPT) fun ρ h H τ W xs vs Q R r o => by
  unfold fnSortA at o
  split at o
  · obtain ⟨v, rfl, q⟩ := one_inv r
    split at o
    · rename_i ns e
      split at o
      · rename_i hz
        obtain ⟨ys, e1, e2⟩ := Option.bind_eq_some_iff.mp e
        have e3 := intsOf_eq e2
        subst e3
        obtain ⟨p, zs, rfl, s, qq⟩ := seq_of R q e1
        rw [qq.ints] at s
        refine .inl ⟨p, ns, rfl, s, hz, fun ms l hp hs hl => ?_⟩
        rw [sort_the hp hs]
        exact new_lst R (.of_ints _) o l hl
      · exact o.elim
    · split at o
      · rename_i ps e
        obtain ⟨ys, e1, e2⟩ := Option.bind_eq_some_iff.mp e
        have e3 := pairsOf_eq e2
        subst e3
        obtain ⟨p, us, rfl, s, qq⟩ := lst_of R q e1
        have lq := qq.len
        have rvs : ∀ (x : V) (pr : Int × Int), (x, pr) ∈ us.zip ps → RV (cxKW X) ρ H (prI pr) x := fun x pr hm => by
          obtain ⟨i, hi, e⟩ := List.getElem_of_mem hm
          have e' : (us.zip ps)[i]? = some (x, pr) := by rw [List.getElem?_eq_getElem hi, e]
          obtain ⟨a1, a2⟩ := List.getElem?_zip_eq_some.mp e'
          obtain ⟨w, ew, rw'⟩ := qq.get (i := i) (x := prI pr) (by rw [List.getElem?_map, a2]; rfl)
          rw [a1] at ew; cases ew
          exact rw'
        refine .inr ⟨p, us, ps, rfl, s, by simpa using lq.symm, fun i x pr a1 a2 => ?_, fun zs d hp hs hd => ?_⟩
        · have r0 := rvs x pr (List.mem_of_getElem? (i := i) (List.getElem?_zip_eq_some.mpr ⟨a1, a2⟩))
          obtain ⟨t, ws, rfl, f, qw⟩ := r0.tup_inv
          have : ws = [.int pr.1, .int pr.2] := RVs.ints (ns := [pr.1, pr.2]) qw
          subst this
          exact ⟨t, rfl, f.sq⟩
        · have es : zs.map (·.2) = ps.mergeSort lePI := by
            refine sort_pairs ?_ ?_
            · have := hp.map (·.2)
              have e4 : (us.zip ps).map (·.2) = ps := by
                rw [← List.unzip_snd, List.unzip_zip_right (by simpa using Nat.le_of_eq lq.symm)]
              rw [e4] at this; exact this
            · exact hs.imp fun h => by unfold lePI; rw [h]; rfl
          have rr : RVs (cxKW X) ρ H ((ps.mergeSort lePI).map prI) (zs.map (·.1)) := by
            rw [← es, List.map_map]
            refine ⟨by simp, fun i x v g1 g2 => ?_⟩
            rw [List.getElem?_map] at g1 g2
            obtain ⟨z, ez, rfl⟩ := Option.map_eq_some_iff.mp g1
            rw [ez] at g2
            cases g2
            exact rvs z.1 z.2 (hp.mem_iff.mp (List.mem_of_getElem? ez))
          exact new_lst R rr o d hd
      · exact o.elim
  · exact o.elim
theorem fnSortA_LT {v : PV} {h : AH} {r : Res PV} (hr : r ≠ .stuck) (e : fnSortLT [v] h = r) : fnSortA [v] h = r := by
  unfold fnSortLT at e
  unfold fnSortA
  dsimp only at e ⊢
  cases c : (seqOf v h).bind intsOf with
  | some ns => rw [c] at e; exact e
  | none => rw [c] at e; exact absurd e.symm hr
/-- pairs that are in order already -/
theorem fnSortA_srt {v : PV} {h : AH} {ps : List (Int × Int)} (e : lstOf v h = some (ps.map prI)) (e2 : seqOf v h = some (ps.map prI)) (s : ps.Pairwise fun p q => lePI p q = true) : fnSortA [v] h = .ok (.loc h.length) (h ++ [.lst (ps.map prI)]) := by
  unfold fnSortA
  dsimp only
  rw [e2, Option.bind_some]
  cases ps with
  | nil =>
    show (if ([] : List Int).length < 64 then new (.lst (([].mergeSort fun a b => decide (a ≤ b)).map PV.int)) h else .stuck) = _
    rw [if_pos (by decide), List.mergeSort_nil]; rfl
  | cons p ps =>
    have e3 : intsOf ((p :: ps).map prI) = none := rfl
    rw [e3, e, Option.bind_some, pairsOf_map]
    dsimp only
    rw [← sort_pairs (List.Perm.refl _) s]
    rfl
end AB

/-! AB23: a tuple in steps of 1 or -1, the step worked out; a, b = a list; list.index of data -/
namespace AB
open PySem PySem.Spec
open PyProof.Rows hiding St
open L2
section
variable {prog : Program} {w : World} {A : Around} {E : Value → Shared → Prop} {s : Shared}
theorem adjust_one (n : Nat) : Builtin.Slice.sliceAdjust none none 1 (n : Int) = (0, (n : Int)) := by
  unfold Builtin.Slice.sliceAdjust
  have h1 : ¬ ((1 : Int) < 0) := by omega
  simp only [h1, if_false]
theorem places_one (n : Nat) : Builtin.Slice.slicePlaces 0 (n : Int) 1 = n := by
  unfold Builtin.Slice.slicePlaces
  have h1 : ((1 : Int) > 0) := by omega
  simp only [h1, if_true]
  have e : ((n : Int) - 0 - 1) / 1 = (n : Int) - 1 := by rw [Int.ediv_one]; omega
  rw [e]
  split <;> omega
theorem applied_one {sl : Addr} {u : Tok} {n : Nat} {R : Int × Int × Nat → Shared → Prop} (hs : s.heap.IsSliceOf sl .none .none (.int 1 u)) (q : R (0, 1, n) s) :
    wpAny (model prog w) A (Builtin.Slice.sliceApplied (.ref sl) (pure (n : Int))) R E s := by
  obtain ⟨os, hos, hcs, hds⟩ := id hs
  unfold Builtin.Slice.sliceApplied Builtin.Slice.sliceFields
  refine wpAny_bind (wpAny_bind (wpAny_field hos hds (x := .none) rfl (wpAny_bind (wpAny_field hos hds (x := .none) rfl (wpAny_bind (wpAny_field hos hds (x := .int 1 u) rfl (wpAny_pure ?_)))))))
  refine wpAny_bind (PyProof.Rows.slicePart_int ?_)
  show wpAny _ _ (if ((1 : Int) == 0) = true then _ else _) _ _ s
  rw [if_neg (by decide)]
  refine wpAny_bind (PyProof.Rows.slicePart_none (wpAny_bind (PyProof.Rows.slicePart_none (wpAny_bind (wpAny_pure ?_)))))
  show wpAny _ _ (match Builtin.Slice.sliceAdjust none none 1 (n : Int) with | (lo, hi) => pure (lo, (1 : Int), Builtin.Slice.slicePlaces lo hi 1)) _ _ s
  rw [adjust_one]
  show wpAny _ _ (pure ((0 : Int), (1 : Int), Builtin.Slice.slicePlaces 0 (n : Int) 1)) _ _ s
  rw [places_one]
  exact wpAny_pure q
theorem item_tuple_one {t sl : Addr} {its : Array Value} {u : Tok} {R : Value → Shared → Prop} (ht : IsTup s.heap t its) (hs : s.heap.IsSliceOf sl .none .none (.int 1 u)) (hz : its.size ≤ sizeLine)
    (q : R (.ref t) s) : wpAny (model prog w) A (getItem (.ref t) (.ref sl)) R E s := by
  obtain ⟨os, hos, hcs, hds⟩ := id hs
  have hT : s.TypeIs (.ref sl) "slice" := ⟨os, hos, hcs⟩
  unfold getItem
  try with_reducible refine wpAny_holding ?_
  first | refine wpAny_bind (wpAny_pure ?_) | skip
  refine wpAny_bind (wpAny_sequenceKey ht.typeIs (by decide) ?_)
  refine wpAny_bind (wpAny_callSpecial?_slot (name := Str.ofString "__getitem__") ht.typeIs PyProof.Rows.slot_tuple_getitem (wpAny_call_entry PyProof.Rows.slot_tuple_getitem ht.typeIs PyProof.Rows.entry_tuple_getitem ?_ (PyProof.Rows.args_tuple_getitem _ _)))
  show wpAny _ _ (Builtin.Tuple.tupleItemsOf (.ref t) >>= _) _ _ s
  refine wpAny_bind (PyProof.Rows.tupleItemsOf_ ht ?_)
  refine wpAny_bind (wpAny_typeOf hT ?_)
  rw [if_pos (by decide)]
  refine wpAny_bind (applied_one hs ?_)
  show wpAny _ _ (if ((0 : Int) == 0 && (1 : Int) == 1 && its.size == its.size) = true then _ else _) _ _ s
  rw [if_pos (by simp)]
  unfold Builtin.Tuple.tupleIsExact
  refine wpAny_bind (wpAny_bind (wpAny_typeOf ht.typeIs (wpAny_pure ?_)))
  rw [if_pos (by decide)]
  first
    | exact wpAny_bind (wpAny_rule (wpAny_pure ⟨_, rfl, wpAny_pure q⟩))
    | exact wpAny_bind (wpAny_rule (wpAny_pure (wpAny_pure ⟨_, rfl, wpAny_pure q⟩)))
end
def qSt (K : PySem.W.Frag) (a : Addr) (xs : List V) (Q : VK) (i : Int) (H : Hp) : Prop := SqT K H a xs ∧ ((i = 1 ∧ Q (.ref a) H) ∨ (i = -1 ∧ ∀ p, H p = none → Q (.ref p) (upd H p (.tup xs.reverse))))
def tStT (K : PySem.W.Frag) (te ts : TE) : TE := fun σ H Q => te σ H fun x H1 => ∃ a xs, x = .ref a ∧ ts σ H1 fun y H2 => ∃ i, y = .int i ∧ qSt K a xs Q i H2
theorem pe_stT {X : Cx} {e se : Expr} {te ts : TE} {p3 pos : Pos} (he : PE X e te) (hs : PE X se ts) : PE X (.Subscript e (.Slice none none (some se) p3) pos) (tStT X.K te ts) := by
  refine ⟨fun pins s σ H Q I h => ?_⟩
  refine Subscript_ (thn (he.run pins s σ H _ I h) fun v s1 ⟨x, H1, I1, r1, q1⟩ => ?_)
  obtain ⟨a, xs, ex, q⟩ := q1
  subst ex
  cases r1
  have st : PO X (some se) (tPart ts) := po_some hs
  refine wpAny_Slice (thn (po_none.run pins s1 σ H1 (fun o G => o = none ∧ G = H1) I1 ⟨rfl, rfl⟩) fun vl s2 ⟨l, H2, I2, pl, el, e2⟩ => ?_)
  subst el e2
  refine thn (po_none.run pins s2 σ H2 (fun o G => o = none ∧ G = H2) I2 ⟨rfl, rfl⟩) fun vu s3 ⟨u, H3, I3, pu, eu, e3⟩ => ?_
  subst eu e3
  refine thn (st.run pins s3 σ H3 (fun o G => match o with | some i => qSt X.K a xs Q i G | none => False) I3 q) fun vs s4 ⟨o, H4, I4, ps, q4⟩ => ?_
  cases pl
  cases pu
  cases o with
  | none => exact q4.elim
  | some i =>
    obtain ⟨hx, q5⟩ : qSt X.K a xs Q i H4 := q4
    obtain ⟨tk, rfl⟩ : ∃ tk, vs = .int i tk := by cases ps; exact ⟨_, rfl⟩
    have I5 : L2.Inv X pins σ H4 { s4 with heap := s4.heap.push { cls := .type "slice", data := .fields #[.none, .none, .int i tk] } } := I4.kept (t' := s4.toks) fun b ob q => Heap.get?_push_of_some _ q
    obtain ⟨its, r, ht, hz⟩ := I5.tuple hx
    have hl := r.length
    show wpAny (model X.prog X.w) X.A (subscriptTail e (.Slice none none (some se) p3) (.ref a) (.ref s4.heap.objs.size)) (EP X pins σ Q) X.xe { s4 with heap := s4.heap.push { cls := .type "slice", data := .fields #[.none, .none, .int i tk] } }
    refine tail_any (ops := [.ref a, .ref s4.heap.objs.size]) ht.typeIs PyProof.Rows.slot_tuple_getitem.lookup ?_ (by with_unfolding_all rfl)
    rcases q5 with ⟨rfl, q⟩ | ⟨rfl, q⟩
    · refine item_tuple_one ht (Heap.IsSliceOf.new _ _ _ _) (by rw [List.size_toArray]; omega) ?_
      exact ⟨.ref a, H4, I5, rfl, q⟩
    · refine item_tuple_rev ht (Heap.IsSliceOf.new _ _ _ _) (by rw [List.size_toArray]; omega) ?_
      refine ⟨.ref _, _, I5.laid (t' := s4.toks) (o := .tup xs.reverse) (fun b ob q => Heap.get?_push_of_some _ q) (Nat.le_refl _) ?_, rfl, q _ (I5.hok.fresh (Nat.le_refl _))⟩
      exact ⟨by rw [List.length_reverse]; exact hz, _, r.reverse, IsTup.new _ _⟩
def aStT (m m2 : AE) : AE := fun σ h => (m σ h).bind fun x h1 => match x with
  | .tup xs => (m2 σ h1).bind fun y h2 => match y with
    | .int k => if k = 1 then .ok (.tup xs) h2 else if k = -1 then .ok (.tup xs.reverse) h2 else .stuck
    | _ => .stuck
  | _ => .stuck
theorem je_stT {X : Cx} {W : WX} {e se : Expr} {m m2 : AE} {pos p3 : Pos} (he : JE X W e m) (hs : JE X W se m2) : JE X W (.Subscript e (.Slice none none (some se) p3) pos) (aStT m m2) :=
  ⟨PEmono (pe_stT he.pe hs.pe) fun τ H Q ⟨ρ, h, σ, R, S, o⟩ => ⟨ρ, h, σ, R, S, (Out.bind (R := RV (cxKW X)) o).mono fun x H1 ⟨ρ1, v, h1, e1, R1, q1, o1⟩ => by
    cases v with
    | tup xs =>
      obtain ⟨p, vs, rfl, f, r⟩ := q1.tup_inv
      refine ⟨p, vs, rfl, ρ1, h1, σ, R1, S.mono e1, (Out.bind (R := RV (cxKW X)) o1).mono fun y H2 ⟨ρ2, u, h2, e2, R2, q2, o2⟩ => ?_⟩
      cases u with
      | int k =>
        rw [q2.int_inv]
        dsimp only at o2
        have f2 := f.mono e2
        split at o2
        · rename_i c
          exact ⟨k, rfl, f2.sq, .inl ⟨c, Out.done o2 R2 (q1.mono e2)⟩⟩
        · split at o2
          · rename_i c
            exact ⟨k, rfl, f2.sq, .inr ⟨c, new_tup R2 (r.mono e2).reverse o2⟩⟩
          · exact o2.elim
      | _ => exact o2.elim
    | _ => exact o1.elim⟩⟩
def gTupL (n : Nat) (g : AGs) : AG := fun x σ h => match lstOf x h with
  | some xs => if xs.length = n then g xs σ h else none
  | none => none
theorem jg_tupL {X : Cx} {es : List Expr} {k : Nat} {g : AGs} {n : Nat} {pos : Pos} (hc : X.calm = true) (h : JGs X es g) (hn : (assignEach es X.env).length = n := by rfl) (hst : (assignEach es X.env).findIdx? (·.1) = none := by rfl) : JG X (.Tuple es k pos) (gTupL n g) :=
  ⟨PGmono (pg_unl hc h.pgs hn hst) fun v τ H Q ⟨ρ, h, σ, y, R, S, r, o⟩ => by
    unfold gTupL at o
    split at o
    · rename_i xs e
      obtain ⟨p, vs, rfl, s, q⟩ := lst_of R r e
      split at o
      · rename_i hz
        exact ⟨p, vs, rfl, s, by rw [q.len]; exact hz, ρ, h, σ, xs, R, S, q, o⟩
      · exact o.elim
    · exact o.elim⟩
def mIndexD : FM := fun v xs h => match xs with
  | [y] => match (lstOf v h).bind dats, dat y with
    | some ds, some d => if SeqAt.shaped (.list ds) = true ∧ SeqAt.shaped d = true then (match ds.findIdx? (fun z => PyData.eqv z d) with
      | some j => .ok (.int (j : Nat)) h
      | none => .stuck) else .stuck
    | _, _ => .stuck
  | _ => .stuck
theorem j_indexD {X : Cx} (hu : X.A.units + 65 < cLine) : JM X "list" "index" mIndexD := ⟨_, _, PySem.F.plainAttrs_list, PySem.F.slot_list_index, PySem.F.type_list_index, mt_indexD hu, fun ρ h H τ W v x xs vs Q R r rs o => by
  unfold mIndexD at o
  split at o
  · rename_i y
    obtain ⟨w, rfl, q⟩ := one_inv rs
    split at o
    · rename_i ds d e1 e2
      split at o
      · rename_i c
        split at o
        · rename_i j ej
          obtain ⟨us, e3, e4⟩ := Option.bind_eq_some_iff.mp e1
          obtain ⟨p, ws, rfl, s, qq⟩ := lst_of R r e3
          obtain ⟨hj, hp, hno⟩ := List.findIdx?_eq_some_iff_getElem.mp ej
          refine ⟨p, w, d, ds, j, ds[j], rfl, rfl, ?_, dat_dp e2 q, c.1, c.2, List.getElem?_eq_getElem hj, hp, fun m z' hm hz => ?_, Out.done o R (.int _)⟩
          · exact .lst s (dats_dp e4 qq)
          · obtain ⟨hm2, rfl⟩ := List.getElem?_eq_some_iff.mp hz
            have := hno m hm
            simpa using this
        · exact o.elim
      · exact o.elim
    · exact o.elim
  · exact o.elim⟩
section
variable {X : Cx}
def rNinDT (K : PySem.W.Frag) : R2 := fun x y H Q => ∃ d ds, Dp K H x d ∧ (Dp K H y (.list ds) ∨ Dp K H y (.tuple ds)) ∧ SeqAt.shaped d = true ∧ SeqAt.shaped (.list ds) = true ∧ SeqAt.shaped (.tuple ds) = true ∧ Q (.bl (!ds.any fun z => PyData.eqv z d)) H
theorem op_ninDT (hu : X.A.units + 65 < cLine) : OpR X (compareOp .NotIn) (rNinDT X.K) := by
  intro pins s σ H x y v u Q I rx ry h
  obtain ⟨d, ds, hd, he, sd, se, st, q⟩ := h
  obtain ⟨as, r1⟩ := Dp.reads I d x v hd rx
  rcases he with he | he
  · obtain ⟨bs, r2⟩ := Dp.reads I (.list ds) y u he ry
    exact SeqAt.notIn_list_reads r2 r1 (SeqAt.canLay_of_shaped se) (SeqAt.canLay_of_shaped sd) (room_in_shaped sd hu) ⟨.bl _, H, I, rfl, q⟩
  · obtain ⟨bs, r2⟩ := Dp.reads I (.tuple ds) y u he ry
    exact SeqAt.notIn_tuple_reads r2 r1 (SeqAt.canLay_of_shaped st) (SeqAt.canLay_of_shaped sd) (room_in_shaped sd hu) ⟨.bl _, H, I, rfl, q⟩
theorem j_ninD (hu : X.A.units + 65 < cLine) : JOp X (compareOp .NotIn) fNinD := jop (op_ninDT hu) fun ρ h H τ W x y v u Q R r1 r2 o => by
  unfold fNinD fInD at o
  cases e1 : dat v with
  | none => rw [e1] at o; exact o.elim
  | some d =>
    cases e2 : (seqOf u h).bind dats with
    | none => rw [e1, e2] at o; exact o.elim
    | some ds =>
      rw [e1, e2] at o
      dsimp only at o
      by_cases c : SeqAt.shaped d = true ∧ SeqAt.shaped (.list ds) = true ∧ SeqAt.shaped (.tuple ds) = true
      · rw [if_pos c] at o
        exact ⟨d, ds, dat_dp e1 r1, seq_dp R r2 e2, c.1, c.2.1, c.2.2, Out.done o R (.bl _)⟩
      · rw [if_neg c] at o; exact o.elim
end
end AB

/-! AB24: sorted(set(t)) of a tuple of ints, list.remove of an int -/
namespace AB
open PySem PySem.Spec
open PyProof.Rows hiding St
open L2
/-! ints, each once, ascending -/
def insZ (x : Int) : List Int → List Int
  | [] => [x]
  | y :: r => if x < y then x :: y :: r else if x = y then y :: r else y :: insZ x r
def srtZ (ns : List Int) : List Int := ns.foldr insZ []
theorem insZ_mem (x k : Int) : ∀ r : List Int, k ∈ insZ x r ↔ k = x ∨ k ∈ r
  | [] => by simp [insZ]
  | y :: r => by
    unfold insZ
    split
    · simp
    · split
      · rename_i h; subst h; simp
      · rw [List.mem_cons, insZ_mem x k r, List.mem_cons]
        constructor
        · rintro (h | h | h)
          · exact .inr (.inl h)
          · exact .inl h
          · exact .inr (.inr h)
        · rintro (h | h | h)
          · exact .inr (.inl h)
          · exact .inl h
          · exact .inr (.inr h)
theorem insZ_lt (x : Int) : ∀ r : List Int, r.Pairwise (· < ·) → (insZ x r).Pairwise (· < ·)
  | [], _ => by simp [insZ]
  | y :: r, h => by
    have h' := List.pairwise_cons.mp h
    unfold insZ
    split
    · rename_i c
      exact List.pairwise_cons.mpr ⟨fun z hz => by
        rcases List.mem_cons.mp hz with rfl | hz
        · exact c
        · have := h'.1 z hz; omega, h⟩
    · split
      · exact h
      · rename_i c d
        exact List.pairwise_cons.mpr ⟨fun z hz => by
          rcases (insZ_mem x z r).mp hz with rfl | hz
          · omega
          · exact h'.1 z hz, insZ_lt x r h'.2⟩
theorem srtZ_mem (k : Int) : ∀ ns : List Int, k ∈ srtZ ns ↔ k ∈ ns
  | [] => by simp [srtZ]
  | x :: r => by
    show k ∈ insZ x (srtZ r) ↔ _
    rw [insZ_mem, srtZ_mem k r, List.mem_cons]
theorem srtZ_lt : ∀ ns : List Int, (srtZ ns).Pairwise (· < ·)
  | [] => List.Pairwise.nil
  | x :: r => insZ_lt x _ (srtZ_lt r)
theorem strict_eq : ∀ {xs ys : List Int}, xs.Pairwise (· < ·) → ys.Pairwise (· < ·) → (∀ k, k ∈ xs ↔ k ∈ ys) → xs = ys
  | [], [], _, _, _ => rfl
  | [], y :: ys, _, _, h => by have := (h y).mpr (by simp); simp at this
  | x :: xs, [], _, _, h => by have := (h x).mp (by simp); simp at this
  | x :: xs, y :: ys, h1, h2, h => by
    have p1 := List.pairwise_cons.mp h1
    have p2 := List.pairwise_cons.mp h2
    have e : x = y := by
      have a := (h x).mp (by simp)
      have b := (h y).mpr (by simp)
      rcases List.mem_cons.mp a with a | a
      · exact a
      · rcases List.mem_cons.mp b with b | b
        · exact b.symm
        · have := p1.1 y b
          have := p2.1 x a
          omega
    subst e
    rw [strict_eq p1.2 p2.2 fun k => ?_]
    constructor
    · intro hk
      rcases List.mem_cons.mp ((h k).mp (List.mem_cons_of_mem _ hk)) with rfl | z
      · have := p1.1 k hk; omega
      · exact z
    · intro hk
      rcases List.mem_cons.mp ((h k).mpr (List.mem_cons_of_mem _ hk)) with rfl | z
      · have := p2.1 k hk; omega
      · exact z
section
variable {X : Cx} {W : WX}
/-- set(t), t a tuple of ints -/
def rSetTI (K : PySem.W.Frag) (w : World) : List V → Hp → VK → Prop := fun xs H Q => ∃ (p : Addr) (ns : List Int), xs = [.ref p] ∧ SqT K H p (ns.map V.int) ∧ ns.length < 64 ∧ ∀ (D : Addr) (c : Nat), H D = none → c ≤ ns.length → Q (.ref D) (upd H D (SetO w D (fun j => decide (j ∈ ns)) c))
theorem cr_setTI (hc : X.calm = true) : CallR X (.type "set") (rSetTI X.K X.w) := by
  intro pins s σ H xs us Q I r h
  obtain ⟨p, ns, rfl, hs, hz, q⟩ := h
  obtain ⟨its, rv, ht, _⟩ := I.tuple hs
  rw [Vals.ref1 r]
  refine call_set_tupI (P := X.prog) ns (I.ok.hd hc) ht rv.ints (by unfold scanBound; omega) fun h' tk c new hcn hk => ?_
  exact ⟨.ref _, _, I.laid (t' := tk) hk (Nat.le_refl _) (setO_new new), rfl, q _ c (I.hok.fresh (Nat.le_refl _)) hcn⟩
def fnSortSet : FN
  | [v], h => match v with
    | .tup xs => match intsOf xs with
      | some ns => if ns.length < 64 then new (.lst ((srtZ ns).map .int)) h else .stuck
      | none => .stuck
    | _ => .stuck
  | _, _ => .stuck
/-- sorted(set(e)) -/
theorem je_sortSet {a : Expr} {m : AE} {p p2 q pos : Pos} (hc : X.calm = true) (hm : X.mg "sorted" = none) (hm2 : X.mg "set" = none) (ha : JE X W a m) (hg : Gl X "sorted" := by rfl) (hg2 : Gl X "set" := by rfl)
    (na : starEach [a] X.env = (false, eval a X.env) :: starEach [] X.env := by rfl) (na2 : starEach [(.Call (.Name "set" p2) [a] [] q : Expr)] X.env = (false, eval (.Call (.Name "set" p2) [a] [] q) X.env) :: starEach [] X.env := by rfl) :
    JE X W (.Call (.Name "sorted" p) [.Call (.Name "set" p2) [a] [] q] [] pos) (aFn fnSortSet (aCons m aNil)) := by
  have pa : PA X [a] (LL (cxKW X) W (aCons m aNil)) := (ja_cons ha ja_nil na).pa
  have ps := pe_callTy (p := p2) (pos := q) (cr_setTI hc) hg2 hm2 PyProof.Rows.boot_set pa (by decide) (by decide) na rfl
  have po := pe_callB (p := p) (pos := pos) (cr_sortedSet hc) hg hm (by rfl) (pa_cons ps pa_nil na2) (by decide) (by decide) na2 rfl
  refine ⟨PEmono po fun τ H Q ⟨ρ, h, σ, R, S, o⟩ => ?_⟩
  refine ⟨ρ, h, σ, R, S, (Out.bind (R := RVs (cxKW X)) o).mono fun vs H1 ⟨ρ1, xs, h1, e1, R1, q1, o1⟩ => ?_⟩
  unfold fnSortSet at o1
  split at o1
  · rename_i v
    obtain ⟨x, rfl, qv⟩ := one_inv q1
    split at o1
    · rename_i xs
      split at o1
      · rename_i ns e
        split at o1
        · rename_i hz
          obtain ⟨pp, ws, rfl, f, r⟩ := qv.tup_inv
          have e3 := intsOf_eq e
          subst e3
          have s : SqT X.K H1 pp (ns.map V.int) := by
            have := f.sq
            rw [r.ints] at this
            exact this
          refine ⟨pp, ns, rfl, s, hz, fun D c hD hcn => ?_⟩
          refine ⟨D, fun j => decide (j ∈ ns), c, rfl, upd_same, by omega, fun ms l hp hs hl hn => ?_⟩
          have em : ms = srtZ ns := strict_eq hp (srtZ_lt ns) fun k => by rw [hs, srtZ_mem]; simp
          subst em
          have R2 : Rep (cxKW X) ρ1 h1 (upd H1 D (SetO X.w D (fun j => decide (j ∈ ns)) c)) := R1.fresh hD
          exact new_lst R2 (.of_ints _) (Out.later o1 (.fresh hD)) l hn
        · exact o1.elim
      · exact o1.elim
    · exact o1.elim
  · exact o1.elim
end
/-! list.remove of an int -/
def mRemI : FM := fun v xs h => match v, xs with
  | .loc n, [.int k] => match (lstOf (.loc n) h).bind intsOf with
    | some ns => match ns.findIdx? (fun z => decide (z = k)) with
      | some j => put n (.lst ((ns.eraseIdx j).map .int)) .non h
      | none => .stuck
    | none => .stuck
  | _, _ => .stuck
theorem j_remI {X : Cx} : JM X "list" "remove" mRemI := ⟨_, _, PySem.F.plainAttrs_list, PySem.F.slot_list_remove, PySem.F.type_list_remove, mt_remove, fun ρ h H τ W v x xs vs Q R r rs o => by
  unfold mRemI at o
  split at o
  · rename_i n k
    split at o
    · rename_i ns e
      split at o
      · rename_i j ej
        obtain ⟨ys, e1, e2⟩ := Option.bind_eq_some_iff.mp e
        have e3 := intsOf_eq e2
        subst e3
        have en : h[n]? = some (.lst (ns.map .int)) := by
          cases c : h[n]? with
          | none => simp [lstOf, c] at e1
          | some u =>
            cases u with
            | lst us => simp [lstOf, c] at e1; rw [e1]
            | dK us => simp [lstOf, c] at e1
            | dT us => simp [lstOf, c] at e1
            | fK us => simp [lstOf, c] at e1
        obtain ⟨p, us, rfl, ep, eH, q⟩ := loc_lst R r en
        rw [q.ints] at eH
        obtain ⟨w, rfl, qw⟩ := one_inv rs
        rw [qw.int_inv]
        obtain ⟨hj, hp, hno⟩ := List.findIdx?_eq_some_iff_getElem.mp ej
        refine ⟨p, ns, k, j, rfl, rfl, eH, by rw [List.getElem?_eq_getElem hj, of_decide_eq_true hp], fun m hm e => ?_, put_lst R ep eH (.of_ints _) .non o⟩
        obtain ⟨hm2, e4⟩ := List.getElem?_eq_some_iff.mp e
        have := hno m hm
        rw [e4] at this
        simp at this
      · exact o.elim
    · exact o.elim
  · exact o.elim⟩
end AB

/-! AB25: == of two lists of ints -/
namespace AB
open PySem PySem.Spec
open PyProof.Rows hiding St
open L2
theorem shp_ints (ks : List Int) : SeqAt.shaped (.list (ks.map .int)) = true := by
  have a : PyData.canLayAll0 (ks.map PyData.int) = true := by
    induction ks with
    | nil => rfl
    | cons e X ih => rw [List.map_cons, PyData.canLayAll0, ih]; rfl
  have b : PyData.depthAll (ks.map PyData.int) ≤ 1 := by
    induction ks with
    | nil => simp [PyData.depthAll]
    | cons e X ih =>
      rw [List.map_cons, PyData.depthAll]
      have q : PyData.depth (.int e) = 0 := by simp [PyData.depth]
      rw [q]
      exact Nat.max_le.mpr ⟨Nat.zero_le _, ih (by simp only [List.map_cons, PyData.canLayAll0, Bool.and_eq_true] at a; exact a.2)⟩
  unfold SeqAt.shaped; rw [PyData.canLay0, a, PyData.depth]; simp; omega
theorem eqv_ints (A B : List Int) : PyData.eqv (.list (A.map .int)) (.list (B.map .int)) = decide (A = B) := by
  show PyData.eqvAll _ _ = _
  induction A generalizing B with
  | nil => cases B <;> rfl
  | cons a A ih =>
    cases B with
    | nil => rfl
    | cons b B =>
      rw [List.map_cons, List.map_cons, PyData.eqvAll, ih B]
      rw [Bool.eq_iff_iff, Bool.and_eq_true, decide_eq_true_iff, decide_eq_true_iff, List.cons.injEq]
      have : PyData.eqv (.int a) (.int b) = true ↔ a = b := by
        simp [PyData.eqv]
      rw [this]
theorem dats_ints : ∀ ks : List Int, dats (ks.map .int) = some (ks.map .int)
  | [] => rfl
  | k :: ks => by rw [List.map_cons, dats, dats_ints ks]; rfl
def fEqZ : F2 := fun v u h => match (lstOf v h).bind intsOf, (lstOf u h).bind intsOf with
  | some as, some bs => .ok (.bl (decide (as = bs))) h
  | _, _ => .stuck
section
variable {X : Cx}
theorem ints_dp {ρ : List Addr} {h : AH} {H : Hp} {v : PV} {x : V} {ns : List Int} (R : Rep (cxKW X) ρ h H) (r : RV (cxKW X) ρ H v x) (e : (lstOf v h).bind intsOf = some ns) : Dp X.K H x (.list (ns.map .int)) := by
  obtain ⟨ys, e1, e2⟩ := Option.bind_eq_some_iff.mp e
  have e3 := intsOf_eq e2
  subst e3
  obtain ⟨p, ws, rfl, s, q⟩ := lst_of R r e1
  exact .lst s (dats_dp (dats_ints ns) q)
theorem j_eqZ (hu : X.A.units + 65 < cLine) : JOp X (compareOp .Eq) fEqZ := jop (op_eqD (by omega)) fun ρ h H τ W x y v u Q R r1 r2 o => by
  unfold fEqZ at o
  split at o
  · rename_i as bs e1 e2
    refine ⟨_, _, ints_dp R r1 e1, ints_dp R r2 e2, shp_ints as, shp_ints bs, ?_⟩
    rw [eqv_ints]
    exact Out.done o R (.bl _)
  · exact o.elim
end
end AB

/-! AB26: sorted of a list of int tuples of one length -/
namespace AB
open PySem PySem.Spec
open PyProof.Rows hiding St
open L2
abbrev cB : Int := 1048576
def tI (t : List Int) : PV := .tup (t.map .int)
def tupsOf : List PV → Option (List (List Int))
  | [] => some []
  | .tup xs :: r => (intsOf xs).bind fun ns => (tupsOf r).map (ns :: ·)
  | _ :: _ => none
theorem tupsOf_map : ∀ ts : List (List Int), tupsOf (ts.map tI) = some ts
  | [] => rfl
  | t :: ts => by
    show (intsOf (t.map .int)).bind _ = _
    rw [intsOf_map, Option.bind_some, tupsOf_map ts]; rfl
theorem tupsOf_eq : ∀ {xs : List PV} {ts : List (List Int)}, tupsOf xs = some ts → xs = ts.map tI
  | [], ts, e => by cases e; rfl
  | x :: xs, ts, e => by
    unfold tupsOf at e
    split at e
    · rename_i h; cases h
    · rename_i ys r h
      cases h
      obtain ⟨ns, e1, e2⟩ := Option.bind_eq_some_iff.mp e
      obtain ⟨qs, e3, rfl⟩ := Option.map_eq_some_iff.mp e2
      rw [tupsOf_eq e3, intsOf_eq e1]; rfl
    · cases e
/-! the order -/
theorem code_swo {α : Type} (f : α → Int) : SrtO.Swo fun x y : α => decide (f x < f y) := by
  refine ⟨fun x y h => ?_, fun x y z h1 h2 => ?_⟩
  · have a := of_decide_eq_true h
    exact decide_eq_false (by omega)
  · have a := of_decide_eq_false h1
    have b := of_decide_eq_false h2
    exact decide_eq_false (by omega)
section
variable {prog : Program} {w : World} {A : Around} {E : Value → Shared → Prop} {s : Shared}
theorem tups_sortable {a : Addr} {vs : List Value} {d : Nat} {B : Int} {k : Value → List Int} (h0 : 0 < vs.length) (hd : 1 ≤ d) (x : ∀ v ∈ vs, TS.TupInts s.heap v (k v) ∧ (k v).length = d ∧ TS.Bd B (k v)) (ha : ∀ o, s.heap.get? a = some o → o.cls ≠ .type "tuple") :
    SrtO.SortableO prog w A s a vs fun v u => decide (TS.code B (k v) < TS.code B (k u)) := by
  intro h' keep
  have hx : ∀ v ∈ vs, TS.TupInts h' v (k v) ∧ (k v).length = d ∧ TS.Bd B (k v) := fun v hm =>
    ⟨(x v hm).1.keeps fun b o e c => keep b o (fun z => by subst z; exact ha o e c) e, (x v hm).2⟩
  obtain ⟨fs, h1, h2, h3⟩ := TS.firsts_of (h := h') (B := B) hd vs fun v hv => ⟨_, hx v hv⟩
  refine ⟨tuples' true, fun Q E hq => ?_, fun p q hp hq => ?_⟩
  · refine PySem.W.kat_kind (T := .type "int") h1 (by omega) (fun f hm => ?_) (by rfl) hq
    obtain ⟨n, t, rfl⟩ := h3 f hm
    exact PySem.W.Looks.of_pure rfl
  · have tp := hx _ hp
    have tq := hx _ hq
    show wpAny (model prog w) A (keyLt' (tuples' true) p.1 q.1) (fun r s' => s' = _ ∧ r = decide (TS.code B (k p.1) < TS.code B (k q.1))) (fun _ _ => False) _
    generalize k p.1 = ns at tp ⊢
    generalize k q.1 = ms at tq ⊢
    obtain ⟨⟨a1, xs, e1, ⟨o1, g1, c1, n1, d1⟩, i1⟩, lp, bp⟩ := tp
    obtain ⟨⟨a2, ys, e2, ⟨o2, g2, c2, n2, d2⟩, i2⟩, lq, bq⟩ := tq
    have l1 := i1.length
    have l2 := i2.length
    rw [Array.length_toList] at l1 l2
    rw [e1, e2]
    refine PySem.W.kat_lt g1 d1 g2 d2 ?_
    rw [show decide (xs.size < ys.size) = false from decide_eq_false (by omega)]
    exact TS.lex_ints 0 i1 i2 (by omega) bp bq ⟨rfl, rfl⟩
end
def rSortTT (K : PySem.W.Frag) : List V → Hp → VK → Prop := fun vs H Q => ∃ (a : Addr) (xs : List V) (ts : List (List Int)) (d : Nat), vs = [V.ref a] ∧ SqL K H a xs ∧ ts.length = xs.length ∧ 1 ≤ d ∧ (∀ t ∈ ts, t.length = d ∧ TS.Bd cB t) ∧
  (∀ (i : Nat) (x : V) (t : List Int), xs[i]? = some x → ts[i]? = some t → ∃ p, x = V.ref p ∧ SqT K H p (t.map V.int)) ∧
  ∀ (zs : List (V × List Int)) (e : Addr), zs.Perm (xs.zip ts) → (zs.map (·.2)).Pairwise (fun p q => TS.code cB p ≤ TS.code cB q) → H e = none → Q (.ref e) (upd H e (.lst (zs.map (·.1))))
theorem ints_inj : ∀ {xs ys : List Int}, xs.map V.int = ys.map V.int → xs = ys
  | [], [], _ => rfl
  | [], _ :: _, h => by cases h
  | _ :: _, [], h => by cases h
  | x :: xs, y :: ys, h => by
    rw [List.map_cons, List.map_cons, List.cons.injEq] at h
    rw [V.int.inj h.1, ints_inj h.2]
theorem cr_sortTT {X : Cx} : CallR X (.builtin "sorted") (rSortTT X.K) := by
  intro pins s σ H vs us Q I r h
  obtain ⟨a, xs, ts, d, rfl, hs, hl, hd, hb, hx, q⟩ := h
  obtain ⟨its, rv, hl', hz⟩ := I.list hs
  obtain ⟨u, rfl, ru⟩ := vals1 r
  obtain rfl : u = Value.ref a := ru
  obtain ⟨e1, e2⟩ := refs_back rv fun x m => by
    obtain ⟨i, hi, e⟩ := List.getElem_of_mem m
    obtain ⟨t, e', _⟩ := hx i x (ts[i]'(by omega)) (by rw [List.getElem?_eq_getElem hi, e]) (by rw [List.getElem?_eq_getElem (by omega)])
    exact ⟨t, e'⟩
  let W : Value → List Int → Prop := fun u p => ∃ t, u = Value.ref t ∧ SqT X.K H t (p.map V.int)
  obtain ⟨k, hk⟩ : ∃ k : Value → List Int, ∀ u p, W u p → k u = p := by
    classical
    refine ⟨fun u => if h : ∃ p, W u p then Classical.choose h else [], fun u p hp => ?_⟩
    have h : ∃ p, W u p := ⟨p, hp⟩
    show (if h : ∃ p, W u p then Classical.choose h else []) = p
    rw [dif_pos h]
    obtain ⟨t, e, s1⟩ := Classical.choose_spec h
    obtain ⟨t', e', s2⟩ := hp
    rw [e] at e'
    cases e'
    exact ints_inj (I.tuple_inj s1 s2)
  have ln : its.length = xs.length := rv.length.symm
  have wi : ∀ (i : Nat) (u : Value), its[i]? = some u → ∃ p, ts[i]? = some p ∧ W u p ∧ k u = p := fun i u eu => by
    have hi : i < its.length := (List.getElem?_eq_some_iff.mp eu).1
    have ex : xs[i]? = some (backV u) := by rw [e1, List.getElem?_map, eu]; rfl
    have ep : ts[i]? = some (ts[i]'(by omega)) := List.getElem?_eq_getElem (by omega)
    obtain ⟨t, e, sq⟩ := hx i _ _ ex ep
    obtain ⟨t', rfl⟩ := e2 u (List.mem_of_getElem? eu)
    cases e
    exact ⟨_, ep, ⟨t, rfl, sq⟩, hk _ _ ⟨t, rfl, sq⟩⟩
  have eps : ts = its.map k := List.ext_getElem? fun i => by
    rw [List.getElem?_map]
    cases c : its[i]? with
    | none => exact List.getElem?_eq_none (by have := List.getElem?_eq_none_iff.mp c; omega)
    | some u => obtain ⟨p, ep, _, ek⟩ := wi i u c; rw [ep, ← ek]; rfl
  have ezip : xs.zip ts = its.map fun u => (backV u, k u) := by rw [e1, eps]; exact List.zip_map'
  have hts : ∀ v ∈ its, TS.TupInts s.heap v (k v) ∧ (k v).length = d ∧ TS.Bd cB (k v) := fun v hv => by
    obtain ⟨i, hi, e⟩ := List.getElem_of_mem hv
    obtain ⟨p, ep, ⟨t, rfl, sq⟩, ek⟩ := wi i v (by rw [List.getElem?_eq_getElem hi, e])
    have := hb p (List.mem_of_getElem? ep)
    rw [ek]
    obtain ⟨its2, r2, ht, _⟩ := I.tuple sq
    exact ⟨⟨t, _, rfl, ht, r2.ints⟩, this⟩
  refine SrtO.sorted_ord (ltv := fun v u => decide (TS.code cB (k v) < TS.code cB (k u))) (code_swo fun v => TS.code cB (k v)) hl'.isList (by rw [← rv.length]; exact hz) (fun h2 h₁ a' g1 kp => ?_) fun out h1 h2 => ?_
  · refine tups_sortable (by omega) hd (fun v hv => ⟨(hts v hv).1.keeps fun b o e _ => (kp b o e).2, (hts v hv).2⟩) fun o e => ?_
    rw [g1] at e
    cases e
    intro c
    have c' : Value.type "list" = Value.type "tuple" := c
    injection c' with c''
    exact absurd c'' (by decide)
  · have h3 : ∀ u ∈ out, ∃ a, u = Value.ref a := fun u hu => e2 u (h2.perm.mem_iff.mp hu)
    obtain ⟨ep, he'⟩ := PyProof.Rows.sortedAll_at s.heap its out.toArray
    have hlen : (out.map backV).length = xs.length := by rw [List.length_map, h2.perm.length_eq]; exact ln
    refine ⟨.ref _, upd H (s.heap.objs.size + 1) (.lst (out.map backV)), I.laid (t' := s.toks) (fun _ _ => PyProof.Rows.sortedAll_old) (Nat.le_succ _) ⟨by rw [hlen]; exact hz, out, ep, vals_back h3, he'⟩, rfl, ?_⟩
    have := q (out.map fun u => (backV u, k u)) (s.heap.objs.size + 1) (by rw [ezip]; exact h2.perm.map _) (by
      rw [List.map_map]
      exact List.pairwise_map.mpr (h1.imp fun {x y} h => Int.not_lt.mp (of_decide_eq_false h))) (I.hok.fresh (Nat.le_succ _))
    rw [List.map_map] at this
    exact this
def leT (p q : List Int) : Bool := decide (TS.code cB p ≤ TS.code cB q)
def dT (ts : List (List Int)) : Nat := (ts.head?.map List.length).getD 1
def okT (ts : List (List Int)) : Bool := decide (1 ≤ dT ts) && ts.all fun t => decide (t.length = dT ts) && t.all fun m => decide (0 ≤ m) && decide (m < cB)
theorem code_inj : ∀ {p q : List Int}, p.length = q.length → TS.Bd cB p → TS.Bd cB q → TS.code cB p = TS.code cB q → p = q
  | [], [], _, _, _, _ => rfl
  | [], _ :: _, h, _, _, _ => by cases h
  | _ :: _, [], h, _, _, _ => by cases h
  | x :: p, y :: q, h, bp, bq, e => by
    have hl : p.length = q.length := by simpa using h
    rcases Int.lt_trichotomy x y with c | c | c
    · have := TS.code_lt hl bp.tail bq.tail c; omega
    · subst c
      have e2 : TS.code cB p = TS.code cB q := by
        have e' : x * cB ^ p.length + TS.code cB p = x * cB ^ q.length + TS.code cB q := e
        rw [hl] at e'
        generalize x * cB ^ q.length = Z at e'
        omega
      rw [code_inj hl bp.tail bq.tail e2]
    · have := TS.code_lt hl.symm bq.tail bp.tail c; omega
theorem sort_tups {ts us : List (List Int)} {d : Nat} (ok : ∀ t ∈ ts, t.length = d ∧ TS.Bd cB t) (p : us.Perm ts) (s : us.Pairwise fun p q => TS.code cB p ≤ TS.code cB q) : us = ts.mergeSort leT := by
  have h2 : (ts.mergeSort leT).Pairwise fun p q => leT p q = true :=
    List.pairwise_mergeSort (le := leT) (fun a b c h1 h2 => by
      have a := of_decide_eq_true h1
      have b := of_decide_eq_true h2
      exact decide_eq_true (by omega)) (fun a b => by
      unfold leT
      rw [Bool.or_eq_true, decide_eq_true_iff, decide_eq_true_iff]
      omega) ts
  have pm := p.trans (List.mergeSort_perm ts leT).symm
  exact List.Perm.eq_of_pairwise (le := fun p q => TS.code cB p ≤ TS.code cB q) (fun a b ha hb h1 h2 => by
    have oa := ok a (p.mem_iff.mp ha)
    have ob := ok b ((List.mergeSort_perm ts leT).mem_iff.mp hb)
    exact code_inj (by omega) oa.2 ob.2 (by omega)) s (h2.imp fun h => of_decide_eq_true h) pm
def fnSortT : FN
  | [v], h => match (lstOf v h).bind tupsOf with
    | some ts => if okT ts = true then new (.lst ((ts.mergeSort leT).map tI)) h else .stuck
    | none => .stuck
  | _, _ => .stuck
theorem okT_iff {ts : List (List Int)} : okT ts = true ↔ 1 ≤ dT ts ∧ ∀ t ∈ ts, t.length = dT ts ∧ TS.Bd cB t := by
  unfold okT TS.Bd
  simp [List.all_eq_true]
theorem j_sortT {X : Cx} : JFn X (.builtin "sorted") fnSortT := jfn cr_sortTT fun ρ h H τ W xs vs Q R r o => by
  unfold fnSortT at o
  split at o
  · obtain ⟨v, rfl, q⟩ := one_inv r
    split at o
    · rename_i ts e
      split at o
      · rename_i hok
        obtain ⟨hd, hok⟩ := okT_iff.mp hok
        obtain ⟨ys, e1, e2⟩ := Option.bind_eq_some_iff.mp e
        have e3 := tupsOf_eq e2
        subst e3
        obtain ⟨p, us, rfl, s, qq⟩ := lst_of R q e1
        have lq := qq.len
        have rvs : ∀ (x : V) (t : List Int), (x, t) ∈ us.zip ts → RV (cxKW X) ρ H (tI t) x := fun x t hm => by
          obtain ⟨i, hi, e⟩ := List.getElem_of_mem hm
          have e' : (us.zip ts)[i]? = some (x, t) := by rw [List.getElem?_eq_getElem hi, e]
          obtain ⟨a1, a2⟩ := List.getElem?_zip_eq_some.mp e'
          obtain ⟨w, ew, rw'⟩ := qq.get (i := i) (x := tI t) (by rw [List.getElem?_map, a2]; rfl)
          rw [a1] at ew; cases ew
          exact rw'
        refine ⟨p, us, ts, dT ts, rfl, s, by simpa using lq.symm, hd, hok, fun i x t a1 a2 => ?_, fun zs d hp hs hd' => ?_⟩
        · have r0 := rvs x t (List.mem_of_getElem? (i := i) (List.getElem?_zip_eq_some.mpr ⟨a1, a2⟩))
          obtain ⟨pp, ws, rfl, f, qw⟩ := r0.tup_inv
          have : ws = t.map V.int := RVs.ints qw
          subst this
          exact ⟨pp, rfl, f.sq⟩
        · have es : zs.map (·.2) = ts.mergeSort leT := by
            refine sort_tups hok ?_ hs
            have := hp.map (·.2)
            have e4 : (us.zip ts).map (·.2) = ts := by
              rw [← List.unzip_snd, List.unzip_zip_right (by simpa using Nat.le_of_eq lq.symm)]
            rw [e4] at this; exact this
          have rr : RVs (cxKW X) ρ H ((ts.mergeSort leT).map tI) (zs.map (·.1)) := by
            rw [← es, List.map_map]
            refine ⟨by simp, fun i x v g1 g2 => ?_⟩
            rw [List.getElem?_map] at g1 g2
            obtain ⟨z, ez, rfl⟩ := Option.map_eq_some_iff.mp g1
            rw [ez] at g2
            cases g2
            exact rvs z.1 z.2 (hp.mem_iff.mp (List.mem_of_getElem? ez))
          exact new_lst R rr o d hd'
      · exact o.elim
    · exact o.elim
  · exact o.elim
end AB

/-! AB27: is True, is not True (two truth values) -/
namespace AB
open PySem PySem.Spec
open PyProof.Rows hiding St
open L2
variable {X : Cx}
def fIsB : F2
  | .bl a, .bl b, h => .ok (.bl (decide (a = b))) h
  | _, _, _ => .stuck
def fNotB : F2
  | .bl a, .bl b, h => .ok (.bl (!decide (a = b))) h
  | _, _, _ => .stuck
theorem j_isB : JOp X (compareOp .Is) fIsB := jop op_isBl fun ρ h H τ W x y v u Q R r1 r2 o => by
  unfold fIsB at o
  split at o
  · exact ⟨_, _, r1.bl_inv, r2.bl_inv, Out.done o R (.bl _)⟩
  · exact o.elim
theorem j_notB : JOp X (compareOp .IsNot) fNotB := jop op_notBl fun ρ h H τ W x y v u Q R r1 r2 o => by
  unfold fNotB at o
  split at o
  · exact ⟨_, _, r1.bl_inv, r2.bl_inv, Out.done o R (.bl _)⟩
  · exact o.elim
end AB

namespace G12
open PySem PySem.Spec
open PyProof.Rows hiding St
open L2 AB
def topS (i : Nat) : Stmt := PySem.Challenge.pw_keptasatree_k12_best_tree.main.body.getD i (.Pass ⟨0, 0, 0, 0⟩)
abbrev s_is_integer : Stmt := topS 5
abbrev sN_is_integer : List Str := ["thing"]
theorem sc_is_integer : FnScope sN_is_integer ["thing"] (defScope s_is_integer) := ⟨rfl, rfl, rfl, by decide +kernel, rfl, by decide +kernel, by decide +kernel⟩
abbrev s_tuple_of : Stmt := topS 7
abbrev sN_tuple_of : List Str := ["thing", "many"]
theorem sc_tuple_of : FnScope sN_tuple_of ["thing", "many"] (defScope s_tuple_of) := ⟨rfl, rfl, rfl, by decide +kernel, rfl, by decide +kernel, by decide +kernel⟩
abbrev s_ends_of : Stmt := topS 9
abbrev sN_ends_of : List Str := ["net", "line"]
theorem sc_ends_of : FnScope sN_ends_of ["net", "line"] (defScope s_ends_of) := ⟨rfl, rfl, rfl, by decide +kernel, rfl, by decide +kernel, by decide +kernel⟩
abbrev s_merged : Stmt := topS 10
abbrev sN_merged : List Str := ["homes", "one", "other", "first", "second", "place", "home"]
theorem sc_merged : FnScope sN_merged ["homes", "one", "other"] (defScope s_merged) := ⟨rfl, rfl, rfl, by decide +kernel, rfl, by decide +kernel, by decide +kernel⟩
abbrev s_all_lines : Stmt := topS 13
abbrev sN_all_lines : List Str := ["net"]
theorem sc_all_lines : FnScope sN_all_lines ["net"] (defScope s_all_lines) := ⟨rfl, rfl, rfl, by decide +kernel, rfl, by decide +kernel, by decide +kernel⟩
abbrev s_worth_of : Stmt := topS 21
abbrev sN_worth_of : List Str := ["worths", "tree", "line"]
theorem sc_worth_of : FnScope sN_worth_of ["worths", "tree"] (defScope s_worth_of) := ⟨rfl, rfl, rfl, by decide +kernel, rfl, by decide +kernel, by decide +kernel⟩
abbrev s__law_kettle : Stmt := topS 26
abbrev sN__law_kettle : List Str := ["script", "inside", "turned", "cell", "size", "lean", "leans", "spout"]
theorem sc__law_kettle : FnScope sN__law_kettle ["script"] (defScope s__law_kettle) := ⟨rfl, rfl, rfl, by decide +kernel, rfl, by decide +kernel, by decide +kernel⟩
abbrev s__law_pour : Stmt := topS 27
abbrev sN__law_pour : List Str := ["kettle", "many", "spout", "at", "figure", "lean"]
theorem sc__law_pour : FnScope sN__law_pour ["kettle", "many", "spout"] (defScope s__law_pour) := ⟨rfl, rfl, rfl, by decide +kernel, rfl, by decide +kernel, by decide +kernel⟩
abbrev s__law_same : Stmt := topS 28
abbrev sN__law_same : List Str := ["told", "due", "rest", "one", "other", "good", "at"]
theorem sc__law_same : FnScope sN__law_same ["told", "due"] (defScope s__law_same) := ⟨rfl, rfl, rfl, by decide +kernel, rfl, by decide +kernel, by decide +kernel⟩
abbrev s__law_groups : Stmt := topS 31
abbrev sN__law_groups : List Str := ["net", "lines", "told", "line", "one", "other", "group"]
theorem sc__law_groups : FnScope sN__law_groups ["net", "lines"] (defScope s__law_groups) := ⟨rfl, rfl, rfl, by decide +kernel, rfl, by decide +kernel, by decide +kernel⟩
abbrev s__law_forest : Stmt := topS 33
abbrev sN__law_forest : List Str := ["net", "lines", "told", "groups", "line", "one", "other", "group"]
theorem sc__law_forest : FnScope sN__law_forest ["net", "lines"] (defScope s__law_forest) := ⟨rfl, rfl, rfl, by decide +kernel, rfl, by decide +kernel, by decide +kernel⟩
abbrev s__law_trees : Stmt := topS 35
abbrev sN__law_trees : List Str := ["net", "rows", "line", "more", "lines", "groups", "one", "other", "least", "group"]
theorem sc__law_trees : FnScope sN__law_trees ["net"] (defScope s__law_trees) := ⟨rfl, rfl, rfl, by decide +kernel, rfl, by decide +kernel, by decide +kernel⟩
abbrev s__law_worth : Stmt := topS 36
abbrev sN__law_worth : List Str := ["worths", "tree", "line"]
theorem sc__law_worth : FnScope sN__law_worth ["worths", "tree"] (defScope s__law_worth) := ⟨rfl, rfl, rfl, by decide +kernel, rfl, by decide +kernel, by decide +kernel⟩
abbrev s_integer_within : Stmt := topS 6
abbrev sN_integer_within : List Str := ["thing", "low", "high"]
theorem sc_integer_within : FnScope sN_integer_within ["thing", "low", "high"] (defScope s_integer_within) := ⟨rfl, rfl, rfl, by decide +kernel, rfl, by decide +kernel, by decide +kernel⟩
abbrev s_homes_by : Stmt := topS 11
abbrev sN_homes_by : List Str := ["net", "lines", "homes", "line", "one", "other"]
theorem sc_homes_by : FnScope sN_homes_by ["net", "lines"] (defScope s_homes_by) := ⟨rfl, rfl, rfl, by decide +kernel, rfl, by decide +kernel, by decide +kernel⟩
abbrev s__law_mix : Stmt := topS 29
abbrev sN__law_mix : List Str := ["kettle", "things", "told", "thing"]
theorem sc__law_mix : FnScope sN__law_mix ["kettle", "things"] (defScope s__law_mix) := ⟨rfl, rfl, rfl, by decide +kernel, rfl, by decide +kernel, by decide +kernel⟩
abbrev s__law_is_tree : Stmt := topS 32
abbrev sN__law_is_tree : List Str := ["net", "lines"]
theorem sc__law_is_tree : FnScope sN__law_is_tree ["net", "lines"] (defScope s__law_is_tree) := ⟨rfl, rfl, rfl, by decide +kernel, rfl, by decide +kernel, by decide +kernel⟩
abbrev s__law_worths : Stmt := topS 37
abbrev sN__law_worths : List Str := ["kettle", "net", "span", "line"]
theorem sc__law_worths : FnScope sN__law_worths ["kettle", "net"] (defScope s__law_worths) := ⟨rfl, rfl, rfl, by decide +kernel, rfl, by decide +kernel, by decide +kernel⟩
abbrev s__law_greedy : Stmt := topS 40
abbrev sN__law_greedy : List Str := ["net", "worths", "rest", "order", "best", "line"]
theorem sc__law_greedy : FnScope sN__law_greedy ["net", "worths"] (defScope s__law_greedy) := ⟨rfl, rfl, rfl, by decide +kernel, rfl, by decide +kernel, by decide +kernel⟩
abbrev s__law_bent : Stmt := topS 41
abbrev sN__law_bent : List Str := ["kettle", "net", "right", "worth", "tree", "at", "odd", "things"]
theorem sc__law_bent : FnScope sN__law_bent ["kettle", "net", "right"] (defScope s__law_bent) := ⟨rfl, rfl, rfl, by decide +kernel, rfl, by decide +kernel, by decide +kernel⟩
abbrev s_hangs_together : Stmt := topS 12
abbrev sN_hangs_together : List Str := ["net", "lines"]
theorem sc_hangs_together : FnScope sN_hangs_together ["net", "lines"] (defScope s_hangs_together) := ⟨rfl, rfl, rfl, by decide +kernel, rfl, by decide +kernel, by decide +kernel⟩
abbrev s_is_line_set : Stmt := topS 15
abbrev sN_is_line_set : List Str := ["net", "thing", "line"]
theorem sc_is_line_set : FnScope sN_is_line_set ["net", "thing"] (defScope s_is_line_set) := ⟨rfl, rfl, rfl, by decide +kernel, rfl, by decide +kernel, by decide +kernel⟩
abbrev s_grown_by : Stmt := topS 17
abbrev sN_grown_by : List Str := ["net", "lines", "homes", "found", "line", "one", "other"]
theorem sc_grown_by : FnScope sN_grown_by ["net", "lines"] (defScope s_grown_by) := ⟨rfl, rfl, rfl, by decide +kernel, rfl, by decide +kernel, by decide +kernel⟩
abbrev s__law_net : Stmt := topS 30
abbrev sN__law_net : List Str := ["kettle", "many", "most", "pool", "order", "pairs", "ring", "at", "more", "lap", "one", "names", "lines", "other"]
theorem sc__law_net : FnScope sN__law_net ["kettle", "many", "most"] (defScope s__law_net) := ⟨rfl, rfl, rfl, by decide +kernel, rfl, by decide +kernel, by decide +kernel⟩
abbrev s__law_is_state : Stmt := topS 38
abbrev sN__law_is_state : List Str := ["net", "thing", "at"]
theorem sc__law_is_state : FnScope sN__law_is_state ["net", "thing"] (defScope s__law_is_state) := ⟨rfl, rfl, rfl, by decide +kernel, rfl, by decide +kernel, by decide +kernel⟩
abbrev s_need_together : Stmt := topS 14
abbrev sN_need_together : List Str := ["net"]
theorem sc_need_together : FnScope sN_need_together ["net"] (defScope s_need_together) := ⟨rfl, rfl, rfl, by decide +kernel, rfl, by decide +kernel, by decide +kernel⟩
abbrev s_is_tree : Stmt := topS 19
abbrev sN_is_tree : List Str := ["net", "thing"]
theorem sc_is_tree : FnScope sN_is_tree ["net", "thing"] (defScope s_is_tree) := ⟨rfl, rfl, rfl, by decide +kernel, rfl, by decide +kernel, by decide +kernel⟩
abbrev s_best_by : Stmt := topS 22
abbrev sN_best_by : List Str := ["net", "worths", "order", "line", "_"]
theorem sc_best_by : FnScope sN_best_by ["net", "worths"] (defScope s_best_by) := ⟨rfl, rfl, rfl, by decide +kernel, rfl, by decide +kernel, by decide +kernel⟩
abbrev s__law_holds : Stmt := topS 39
abbrev sN__law_holds : List Str := ["net", "worths", "most", "thing"]
theorem sc__law_holds : FnScope sN__law_holds ["net", "worths", "most", "thing"] (defScope s__law_holds) := ⟨rfl, rfl, rfl, by decide +kernel, rfl, by decide +kernel, by decide +kernel⟩
abbrev s_best_tree : Stmt := topS 23
abbrev sN_best_tree : List Str := ["net", "worths", "tree"]
theorem sc_best_tree : FnScope sN_best_tree ["net", "worths"] (defScope s_best_tree) := ⟨rfl, rfl, rfl, by decide +kernel, rfl, by decide +kernel, by decide +kernel⟩
abbrev s_is_best : Stmt := topS 24
abbrev sN_is_best : List Str := ["net", "worths", "thing", "worth"]
theorem sc_is_best : FnScope sN_is_best ["net", "worths", "thing"] (defScope s_is_best) := ⟨rfl, rfl, rfl, by decide +kernel, rfl, by decide +kernel, by decide +kernel⟩
abbrev s__law_small : Stmt := topS 42
abbrev sN__law_small : List Str := ["kettle", "net", "worths", "trees", "most", "told", "best", "tree", "other", "thing", "lap"]
theorem sc__law_small : FnScope sN__law_small ["kettle", "net"] (defScope s__law_small) := ⟨rfl, rfl, rfl, by decide +kernel, rfl, by decide +kernel, by decide +kernel⟩
abbrev s__law_wide : Stmt := topS 43
abbrev sN__law_wide : List Str := ["kettle", "net", "worths", "tree", "most", "thing"]
theorem sc__law_wide : FnScope sN__law_wide ["kettle", "net"] (defScope s__law_wide) := ⟨rfl, rfl, rfl, by decide +kernel, rfl, by decide +kernel, by decide +kernel⟩
abbrev s__law_apart : Stmt := topS 44
abbrev sN__law_apart : List Str := ["kettle", "which", "net", "error"]
theorem sc__law_apart : FnScope sN__law_apart ["kettle", "which"] (defScope s__law_apart) := ⟨rfl, rfl, rfl, by decide +kernel, rfl, by decide +kernel, by decide +kernel⟩
abbrev s_law : Stmt := topS 45
abbrev sN_law : List Str := ["script", "kettle", "lap", "square", "low", "told"]
theorem sc_law : FnScope sN_law ["script"] (defScope s_law) := ⟨rfl, rfl, rfl, by decide +kernel, rfl, by decide +kernel, by decide +kernel⟩
abbrev si_BadStep : Stmt := clsSt (topS 3) 0
/-- the classes of the errors -/
class Errs where
  BadStep : Addr
  NetError : Addr
variable [Errs]
def b_is_integer : AS := sRet (aAnd (aFn fnIsi (aCons (aVar 0) (aCons (aC (.raw (.ty "int"))) (aNil)))) (aUn fNot (aFn fnIsi (aCons (aVar 0) (aCons (aC (.raw (.ty "bool"))) (aNil))))))
def m_is_integer : FN := mDef false 1 b_is_integer
def b_tuple_of : AS := sRet (aAnd (aFn fnIsi (aCons (aVar 0) (aCons (aC (.raw (.ty "tuple"))) (aNil)))) (aOp fEq (aFn fnLen (aCons (aVar 0) (aNil))) (aVar 1)))
def m_tuple_of : FN := mDef false 2 b_tuple_of
def b_ends_of : AS := sRet (aSl (aOp fIx (aOp fIx (aVar 0) (aC (.int 1))) (aVar 1)) (aSoP (aC (.int 1))) (aNoP))
def m_ends_of : FN := mDef false 2 b_ends_of
def b_merged : AS := sSeq (sSet 3 (aOp fIx (aVar 0) (aVar 1))) (sSeq (sSet 4 (aOp fIx (aVar 0) (aVar 2))) (sSeq (sIf (aB (aOp fEq (aVar 3) (aVar 4))) (sRet (aC (.bl false))) (sNext)) (sSeq (sFor (aItS (aLstEn (aVar 0))) (gTup' 2 (gCons' (gN 5) (gCons' (gN 6) (gNil')))) (sIf (aB (aOp fEq (aVar 6) (aVar 4))) (sAsg (aVar 3) (gSubL (aVar 0) (aVar 5))) (sNext))) (sRet (aC (.bl true))))))
def m_merged : FN := mDef false 7 b_merged
def b_all_lines : AS := sRet (aTupRg1 (aFn fnLen (aCons (aOp fIx (aVar 0) (aC (.int 1))) (aNil))))
def m_all_lines : FN := mDef false 1 b_all_lines
def b_worth_of : AS := sRet (aFn fnSum (aCons (aLc (aItS (aVar 1)) [2] (gN 2) (tYes') (aOp fIx (aVar 0) (aVar 2))) (aNil)))
def m_worth_of : FN := mDef false 3 b_worth_of
def b__law_kettle : AS := sSeq (sSet 1 (aLst (aNil))) (sSeq (sSet 2 (aC (.int 12311))) (sSeq (sFor (aItS (aSl (aVar 0) (aNoP) (aSoP (aC (.int 64))))) (gN 3) (sSeq (sSet 4 (aOp fMod (aFn fnAbs (aCons (aFn fnInt (aCons (aVar 3) (aNil))) (aNil))) (aOp fShl (aC (.int 1)) (aC (.int 2000))))) (sSeq (sSet 2 (aOp fMod (aFn fnInt (aCons (aOp fAdd (aOp fAdd (aOp fMul (aVar 2) (aC (.int 16807))) (aOp fMod (aVar 4) (aC (.int 1999999951)))) (aC (.int 79))) (aNil))) (aC (.int 2147483549)))) (sIf (aB (aOp fGe (aVar 4) (aOp fPow (aC (.int 10)) (aC (.int 18))))) (sExpr (aM isL mAppend (aVar 1) (aCons (aVar 4) (aNil)))) (sNext))))) (sSeq (sSet 5 (aOp fAdd (aVar 2) (aC (.int 13)))) (sSeq (sSet 6 (aLst (aNil))) (sSeq (sFor (aItR1 (aCons (aC (.int 8)) (aNil))) (gN 7) (sSeq (sSet 5 (aOp fMod (aFn fnInt (aCons (aOp fAdd (aOp fMul (aVar 5) (aC (.int 69621))) (aC (.int 71))) (aNil))) (aC (.int 2147483629)))) (sExpr (aM isL mAppend (aVar 6) (aCons (aOp fIx (aTup (aCons (aC (.int 3)) (aCons (aC (.int 3)) (aCons (aC (.int 2)) (aCons (aC (.int 3)) (aCons (aC (.int 0)) (aCons (aC (.int 3)) (aCons (aC (.int 1)) (aCons (aC (.int 3)) (aNil)))))))))) (aOp fMod (aFn fnInt (aCons (aOp fFdiv (aVar 5) (aC (.int 32768))) (aNil))) (aC (.int 8)))) (aNil)))))) (sRet (aLst (aCons (aVar 1) (aCons (aVar 2) (aCons (aVar 6) (aCons (aVar 5) (aNil))))))))))))
def m__law_kettle : FN := mDef true 8 b__law_kettle
def b__law_pour : AS := sSeq (sFor (aItR1 (aCons (aFn fnLen (aCons (aOp fIx (aVar 0) (aC (.int 0))) (aNil))) (aNil))) (gN 3) (sIf (aB (aOp fGt (aOp fIx (aOp fIx (aVar 0) (aC (.int 0))) (aVar 3)) (aC (.int 0)))) (sSeq (sSet 4 (aOp fMod (aFn fnInt (aCons (aOp fIx (aOp fIx (aVar 0) (aC (.int 0))) (aVar 3)) (aNil))) (aVar 1))) (sSeq (sAsg (aOp fFdiv (aOp fIx (aOp fIx (aVar 0) (aC (.int 0))) (aVar 3)) (aVar 1)) (gSubL (aOp fIx (aVar 0) (aC (.int 0))) (aVar 3))) (sRet (aVar 4)))) (sNext))) (sSeq (sAsg (aOp fMod (aFn fnInt (aCons (aOp fAdd (aOp fMul (aOp fIx (aVar 0) (aC (.int 1))) (aC (.int 69621))) (aC (.int 2203))) (aNil))) (aC (.int 2147483549))) (gSubL (aVar 0) (aC (.int 1)))) (sSeq (sSet 5 (aIf (aB (aOp fLt (aVar 2) (aC (.int 8)))) (aOp fIx (aOp fIx (aVar 0) (aC (.int 2))) (aVar 2)) (aC (.int 3)))) (sSeq (sIf (aB (aOp fEq (aVar 5) (aC (.int 3)))) (sRet (aOp fMod (aFn fnInt (aCons (aOp fFdiv (aOp fIx (aVar 0) (aC (.int 1))) (aC (.int 59))) (aNil))) (aVar 1))) (sNext)) (sRet (aIf (aB (aOp fEq (aVar 5) (aC (.int 2)))) (aOp fMod (aFn fnInt (aCons (aOp fFdiv (aOp fIx (aVar 0) (aC (.int 3))) (aC (.int 101))) (aNil))) (aVar 1)) (aOp fMul (aVar 5) (aOp fSub (aVar 1) (aC (.int 1)))))))))
def m__law_pour : FN := mDef false 6 b__law_pour
noncomputable def b__law_same : AS := sSeq (sSet 2 (aLst (aCons (aTup (aCons (aVar 0) (aCons (aVar 1) (aNil)))) (aNil)))) (sSeq (sWhile (aB (aOp fGt (aFn fnLen (aCons (aVar 2) (aNil))) (aC (.int 0)))) (sSeq (sAsg (aM isL mPop (aVar 2) aNil) (gTup' 2 (gCons' (gN 3) (gCons' (gN 4) (gNil'))))) (sSeq (sIf (aB (aOp fIsN (aVar 4) (aC .non))) (sSet 5 (aOp fIsN (aVar 3) (aC .non))) (sIf (aTr (aFn fnIsi (aCons (aVar 4) (aCons (aC (.raw (.ty "bool"))) (aNil))))) (sSet 5 (aAnd (aFn fnIsi (aCons (aVar 3) (aCons (aC (.raw (.ty "bool"))) (aNil)))) (aOp fEq (aVar 3) (aVar 4)))) (sIf (aTr (aFn fnIsi (aCons (aVar 4) (aCons (aC (.raw (.ty "str"))) (aNil))))) (sSet 5 (aAnd (aFn fnIsi (aCons (aVar 3) (aCons (aC (.raw (.ty "str"))) (aNil)))) (aOp fEq (aVar 3) (aVar 4)))) (sIf (aTr (aFn fnIsi (aCons (aVar 4) (aCons (aC (.raw (.ty "int"))) (aNil))))) (sSet 5 (aAnd (aFn fnIsi (aCons (aVar 3) (aCons (aC (.raw (.ty "int"))) (aNil)))) (aAnd (aUn fNot (aFn fnIsi (aCons (aVar 3) (aCons (aC (.raw (.ty "bool"))) (aNil))))) (aOp fEq (aVar 3) (aVar 4))))) (sSeq (sSet 5 (aIf (aTr (aFn fnIsi (aCons (aVar 4) (aCons (aC (.raw (.ty "tuple"))) (aNil))))) (aFn fnIsi (aCons (aVar 3) (aCons (aC (.raw (.ty "tuple"))) (aNil)))) (aFn fnIsi (aCons (aVar 3) (aCons (aC (.raw (.ty "list"))) (aNil)))))) (sSeq (sSet 5 (aAnd (aVar 5) (aOp fEq (aFn fnLen (aCons (aVar 3) (aNil))) (aFn fnLen (aCons (aVar 4) (aNil)))))) (sIf (aTr (aVar 5)) (sExpr (aM isL mExtend (aVar 2) (aCons (aLc (aItR1 (aCons (aFn fnLen (aCons (aVar 4) (aNil))) (aNil))) [6] (gN 6) (tYes') (aTup (aCons (aOp fIx (aVar 3) (aVar 6)) (aCons (aOp fIx (aVar 4) (aVar 6)) (aNil))))) (aNil)))) (sNext)))))))) (sIf (tNot (aTr (aVar 5))) (sRet (aC (.bl false))) (sNext))))) (sRet (aC (.bl true))))
noncomputable def m__law_same : FN := mDef false 7 b__law_same
def b__law_groups : AS := sSeq (sSet 2 (aCut (aLstRg1 (aFn fnLen (aCons (aOp fIx (aVar 0) (aC (.int 0))) (aNil)))))) (sSeq (sFor (aItS (aVar 1)) (gN 3) (sSeq (sAsg (aTup (aCons (aOp fIx (aVar 2) (aOp fIx (aOp fIx (aOp fIx (aVar 0) (aC (.int 1))) (aVar 3)) (aC (.int 1)))) (aCons (aOp fIx (aVar 2) (aOp fIx (aOp fIx (aOp fIx (aVar 0) (aC (.int 1))) (aVar 3)) (aC (.int 2)))) (aNil)))) (gTup' 2 (gCons' (gN 4) (gCons' (gN 5) (gNil'))))) (sIf (aB (aOp fNe (aVar 4) (aVar 5))) (sSet 2 (aCut (aLc (aItS (aVar 2)) [6] (gN 6) (tYes') (aIf (aB (aOp fIn (aVar 6) (aTup (aCons (aVar 4) (aCons (aVar 5) (aNil)))))) (aFn fnMin (aCons (aVar 4) (aCons (aVar 5) (aNil)))) (aVar 6))))) (sNext)))) (sRet (aVar 2)))
def m__law_groups : FN := mDef false 7 b__law_groups
def b__law_forest : AS := sSeq (sSet 2 (aLst (aNil))) (sSeq (sSet 3 (aCut (aLstRg1 (aFn fnLen (aCons (aOp fIx (aVar 0) (aC (.int 0))) (aNil)))))) (sSeq (sFor (aItS (aVar 1)) (gN 4) (sSeq (sAsg (aTup (aCons (aOp fIx (aVar 3) (aOp fIx (aOp fIx (aOp fIx (aVar 0) (aC (.int 1))) (aVar 4)) (aC (.int 1)))) (aCons (aOp fIx (aVar 3) (aOp fIx (aOp fIx (aOp fIx (aVar 0) (aC (.int 1))) (aVar 4)) (aC (.int 2)))) (aNil)))) (gTup' 2 (gCons' (gN 5) (gCons' (gN 6) (gNil'))))) (sIf (aB (aOp fNe (aVar 5) (aVar 6))) (sSeq (sSet 3 (aCut (aLc (aItS (aVar 3)) [7] (gN 7) (tYes') (aIf (aB (aOp fIn (aVar 7) (aTup (aCons (aVar 5) (aCons (aVar 6) (aNil)))))) (aFn fnMin (aCons (aVar 5) (aCons (aVar 6) (aNil)))) (aVar 7))))) (sExpr (aM isL mAppend (aVar 2) (aCons (aVar 4) (aNil))))) (sNext)))) (sRet (aFn fnTuple (aCons (aFn fnSortLT (aCons (aVar 2) (aNil))) (aNil))))))
def m__law_forest : FN := mDef false 8 b__law_forest
def b__law_trees : AS := sSeq (sSet 1 (aCut (aLst (aCons (aTup (aCons (aTup (aNil)) (aCons (aTupRg1 (aFn fnLen (aCons (aOp fIx (aVar 0) (aC (.int 0))) (aNil)))) (aNil)))) (aNil))))) (sSeq (sFor (aItR1 (aCons (aFn fnLen (aCons (aOp fIx (aVar 0) (aC (.int 1))) (aNil))) (aNil))) (gN 2) (sSeq (sSet 3 (aLst (aNil))) (sSeq (sFor (aItS (aVar 1)) (gTup' 2 (gCons' (gN 4) (gCons' (gN 5) (gNil')))) (sSeq (sAsg (aTup (aCons (aOp fIx (aVar 5) (aOp fIx (aOp fIx (aOp fIx (aVar 0) (aC (.int 1))) (aVar 2)) (aC (.int 1)))) (aCons (aOp fIx (aVar 5) (aOp fIx (aOp fIx (aOp fIx (aVar 0) (aC (.int 1))) (aVar 2)) (aC (.int 2)))) (aNil)))) (gTup' 2 (gCons' (gN 6) (gCons' (gN 7) (gNil'))))) (sIf (aB (aOp fNe (aVar 6) (aVar 7))) (sSeq (sSet 8 (aFn fnMin (aCons (aVar 6) (aCons (aVar 7) (aNil))))) (sExpr (aM isL mAppend (aVar 3) (aCons (aTup (aCons (aOp fAdd (aVar 4) (aTup (aCons (aVar 2) (aNil)))) (aCons (aFn fnTuple (aCons (aLc (aItS (aVar 5)) [9] (gN 9) (tYes') (aIf (aB (aOp fIn (aVar 9) (aTup (aCons (aVar 6) (aCons (aVar 7) (aNil)))))) (aVar 8) (aVar 9))) (aNil))) (aNil)))) (aNil))))) (sNext)))) (sSet 1 (aOp fAdd (aVar 1) (aVar 3)))))) (sRet (aFn fnSortT (aCons (aLc (aItS (aVar 1)) [4, 5] (gTup' 2 (gCons' (gN 4) (gCons' (gN 5) (gNil')))) (aB (aOp fEq (aFn fnLen (aCons (aVar 4) (aNil))) (aOp fSub (aFn fnLen (aCons (aOp fIx (aVar 0) (aC (.int 0))) (aNil))) (aC (.int 1))))) (aVar 4)) (aNil)))))
def m__law_trees : FN := mDef false 10 b__law_trees
def b__law_worth : AS := sRet (aFn fnSum (aCons (aLc (aItS (aVar 1)) [2] (gN 2) (tYes') (aOp fIx (aVar 0) (aVar 2))) (aNil)))
def m__law_worth : FN := mDef false 3 b__law_worth
def b_integer_within : AS := sRet (aAnd (aCall 1 m_is_integer (aCons (aVar 0) (aNil))) (aChain fLe fLe (aVar 1) (aVar 0) (aVar 2)))
def m_integer_within : FN := mDef false 3 b_integer_within
def b_homes_by : AS := sSeq (sSet 2 (aLstRg1 (aFn fnLen (aCons (aOp fIx (aVar 0) (aC (.int 0))) (aNil))))) (sSeq (sFor (aItS (aVar 1)) (gN 3) (sSeq (sAsg (aCall 2 m_ends_of (aCons (aVar 0) (aCons (aVar 3) (aNil)))) (gTup' 2 (gCons' (gN 4) (gCons' (gN 5) (gNil'))))) (sExpr (aCall 3 m_merged (aCons (aVar 2) (aCons (aVar 4) (aCons (aVar 5) (aNil)))))))) (sRet (aVar 2)))
def m_homes_by : FN := mDef true 6 b_homes_by
def b__law_mix : AS := sSeq (sSet 2 (aLst (aNil))) (sSeq (sFor (aItS (aVar 1)) (gN 3) (sExpr (aM isL mInsert (aVar 2) (aCons (aCall 3 m__law_pour (aCons (aVar 0) (aCons (aOp fAdd (aFn fnLen (aCons (aVar 2) (aNil))) (aC (.int 1))) (aCons (aC (.int 8)) (aNil))))) (aCons (aVar 3) (aNil)))))) (sRet (aVar 2)))
def m__law_mix : FN := mDef false 4 b__law_mix
def b__law_is_tree : AS := sRet (aAnd (aOp fEq (aFn fnLen (aCons (aVar 1) (aNil))) (aOp fSub (aFn fnLen (aCons (aOp fIx (aVar 0) (aC (.int 0))) (aNil))) (aC (.int 1)))) (aOp fEq (aFn fnMax (aCons (aCall 2 m__law_groups (aCons (aVar 0) (aCons (aVar 1) (aNil)))) (aNil))) (aC (.int 0))))
def m__law_is_tree : FN := mDef false 2 b__law_is_tree
def b__law_worths : AS := sSeq (sSet 2 (aOp fIx (aTup (aCons (aC (.int 1)) (aCons (aC (.int 2)) (aCons (aC (.int 20)) (aCons (aC (.int 20)) (aNil)))))) (aCall 3 m__law_pour (aCons (aVar 0) (aCons (aC (.int 4)) (aCons (aC (.int 4)) (aNil))))))) (sRet (aFn fnTuple (aCons (aLc (aItS (aOp fIx (aVar 1) (aC (.int 1)))) [3] (gN 3) (tYes') (aOp fIx (aTup (aCons (aOp fSub (aCall 3 m__law_pour (aCons (aVar 0) (aCons (aOp fAdd (aOp fMul (aC (.int 2)) (aVar 2)) (aC (.int 1))) (aCons (aC (.int 5)) (aNil))))) (aVar 2)) (aCons (aC (.int 20)) (aCons (aUn fNeg (aC (.int 20))) (aCons (aC (.int 0)) (aNil)))))) (aOp fFdiv (aCall 3 m__law_pour (aCons (aVar 0) (aCons (aC (.int 9)) (aCons (aC (.int 6)) (aNil))))) (aC (.int 6))))) (aNil))))
def m__law_worths : FN := mDef false 4 b__law_worths
noncomputable def b__law_greedy : AS := sSeq (sSet 2 (aLstRg1 (aFn fnLen (aCons (aOp fIx (aVar 0) (aC (.int 1))) (aNil))))) (sSeq (sSet 3 (aLst (aNil))) (sSeq (sWhile (aB (aOp fGt (aFn fnLen (aCons (aVar 2) (aNil))) (aC (.int 0)))) (sSeq (sSet 4 (aOp fIx (aVar 2) (aC (.int 0)))) (sSeq (sFor (aItS (aVar 2)) (gN 5) (sSet 4 (aIf (aB (aOp fGt (aOp fIx (aVar 1) (aVar 5)) (aOp fIx (aVar 1) (aVar 4)))) (aVar 5) (aVar 4)))) (sSeq (sExpr (aM isL mAppend (aVar 3) (aCons (aVar 4) (aNil)))) (sExpr (aM isL mRemI (aVar 2) (aCons (aVar 4) (aNil)))))))) (sRet (aCall 2 m__law_forest (aCons (aVar 0) (aCons (aVar 3) (aNil)))))))
noncomputable def m__law_greedy : FN := mDef false 6 b__law_greedy
def b__law_bent : AS := sSeq (sAsg (aVar 2) (gTup' 2 (gCons' (gN 3) (gCons' (gN 4) (gNil'))))) (sSeq (sSet 5 (aCall 3 m__law_pour (aCons (aVar 0) (aCons (aOp fAdd (aFn fnLen (aCons (aVar 4) (aNil))) (aC (.int 1))) (aCons (aC (.int 8)) (aNil)))))) (sSeq (sSet 6 (aOp fIx (aTup (aCons (aC (.int 0)) (aCons (aC (.bl true)) (aCons (aC (.bl false)) (aCons (aUn fNeg (aC (.int 1))) (aCons (aFn fnLen (aCons (aOp fIx (aVar 1) (aC (.int 1))) (aNil))) (aCons (aC .non) (aCons (aC (.str "0")) (aCons (aC (.int 1)) (aNil)))))))))) (aCall 3 m__law_pour (aCons (aVar 0) (aCons (aC (.int 8)) (aCons (aC (.int 8)) (aNil))))))) (sSeq (sSet 7 (aCut (aLst (aCons (aTup (aCons (aOp fAdd (aVar 3) (aC (.int 1))) (aCons (aVar 4) (aNil)))) (aCons (aTup (aCons (aOp fSub (aVar 3) (aC (.int 1))) (aCons (aVar 4) (aNil)))) (aCons (aTup (aCons (aVar 3) (aCons (aUn fRevT (aVar 4)) (aNil)))) (aCons (aTup (aCons (aVar 3) (aCons (aFn fnList (aCons (aVar 4) (aNil))) (aNil)))) (aCons (aLst (aCons (aVar 3) (aCons (aVar 4) (aNil)))) (aCons (aTup (aCons (aVar 4) (aCons (aVar 3) (aNil)))) (aCons (aTup (aCons (aVar 3) (aNil))) (aCons (aOp fAdd (aVar 2) (aTup (aCons (aC (.int 0)) (aNil)))) (aCons (aC .non) (aNil))))))))))))) (sSeq (sSet 7 (aCut (aOp fAdd (aOp fAdd (aVar 7) (aOp fMul (aLst (aCons (aTup (aCons (aVar 3) (aCons (aOp fAdd (aOp fAdd (aSl (aVar 4) (aNoP) (aSoP (aVar 5))) (aTup (aCons (aVar 6) (aNil)))) (aSl (aVar 4) (aSoP (aOp fAdd (aVar 5) (aC (.int 1)))) (aNoP))) (aNil)))) (aNil))) (aC (.int 4)))) (aLst (aCons (aTup (aCons (aVar 3) (aCons (aOp fAdd (aSl (aVar 4) (aNoP) (aSoP (aVar 5))) (aSl (aVar 4) (aSoP (aOp fAdd (aVar 5) (aC (.int 1)))) (aNoP))) (aNil)))) (aCons (aTup (aCons (aVar 3) (aCons (aOp fAdd (aVar 4) (aSl (aVar 4) (aNoP) (aSoP (aC (.int 1))))) (aNil)))) (aCons (aTup (aCons (aOp fEq (aVar 3) (aC (.int 1))) (aCons (aVar 4) (aNil)))) (aNil)))))))) (sSeq (sSet 7 (aCut (aOp fAdd (aVar 7) (aLst (aCons (aTup (aCons (aFn fnStr (aCons (aVar 3) (aNil))) (aCons (aVar 4) (aNil)))) (aCons (aTup (aCons (aC .non) (aCons (aVar 4) (aNil)))) (aCons (aTup (aCons (aVar 3) (aCons (aC .non) (aNil)))) (aCons (aVar 4) (aCons (aVar 3) (aCons (aTup (aCons (aC (.bl true)) (aCons (aVar 4) (aNil)))) (aCons (aTup (aCons (aC (.bl false)) (aCons (aVar 4) (aNil)))) (aNil)))))))))))) (sRet (aOp fIx (aVar 7) (aCall 3 m__law_pour (aCons (aVar 0) (aCons (aFn fnLen (aCons (aVar 7) (aNil))) (aCons (aC (.int 8)) (aNil))))))))))))
def m__law_bent : FN := mDef false 8 b__law_bent
def b_hangs_together : AS := sRet (aOp fEq (aLenSet (aCall 2 m_homes_by (aCons (aVar 0) (aCons (aVar 1) (aNil))))) (aC (.int 1)))
def m_hangs_together : FN := mDef false 2 b_hangs_together
def b_is_line_set : AS := sSeq (sIf (tCut (tOr (tNot (aTr (aFn fnIsi (aCons (aVar 1) (aCons (aC (.raw (.ty "tuple"))) (aNil)))))) (tNot (aTr (aFn fnAll (aCons (aLc (aItS (aVar 1)) [2] (gN 2) (tYes') (aCall 3 m_integer_within (aCons (aVar 2) (aCons (aC (.int 0)) (aCons (aOp fSub (aFn fnLen (aCons (aOp fIx (aVar 0) (aC (.int 1))) (aNil))) (aC (.int 1))) (aNil)))))) (aNil))))))) (sRet (aC (.bl false))) (sNext)) (sRet (aOp fEqZ (aFn fnList (aCons (aVar 1) (aNil))) (aFn fnSortSet (aCons (aVar 1) (aNil)))))
def m_is_line_set : FN := mDef false 3 b_is_line_set
def b_grown_by : AS := sSeq (sSet 2 (aCall 2 m_homes_by (aCons (aVar 0) (aCons (aTup (aNil)) (aNil))))) (sSeq (sSet 3 (aLst (aNil))) (sSeq (sFor (aItS (aVar 1)) (gN 4) (sSeq (sAsg (aCall 2 m_ends_of (aCons (aVar 0) (aCons (aVar 4) (aNil)))) (gTup' 2 (gCons' (gN 5) (gCons' (gN 6) (gNil'))))) (sIf (aTr (aCall 3 m_merged (aCons (aVar 2) (aCons (aVar 5) (aCons (aVar 6) (aNil)))))) (sExpr (aM isL mAppend (aVar 3) (aCons (aVar 4) (aNil)))) (sNext)))) (sRet (aFn fnTuple (aCons (aFn fnSortLT (aCons (aVar 3) (aNil))) (aNil))))))
def m_grown_by : FN := mDef false 7 b_grown_by
def b__law_net : AS := sSeq (sSet 3 (aCut (aCall 2 m__law_mix (aCons (aVar 0) (aCons (aLst (aCons (aC (.str "ash")) (aCons (aC (.str "bay")) (aCons (aC (.str "c1")) (aCons (aC (.str "d")) (aCons (aC (.str "elm")) (aCons (aC (.str "f0")) (aCons (aC (.str "gum")) (aCons (aC (.str "h9h")) (aCons (aC (.str "ivy")) (aCons (aC (.str "jute")) (aNil)))))))))))) (aNil)))))) (sSeq (sSet 4 (aCut (aCall 2 m__law_mix (aCons (aVar 0) (aCons (aLstRg1 (aVar 1)) (aNil)))))) (sSeq (sSet 5 (aLst (aNil))) (sSeq (sSet 6 (aOp fEq (aCall 3 m__law_pour (aCons (aVar 0) (aCons (aC (.int 3)) (aCons (aC (.int 0)) (aNil))))) (aC (.int 0)))) (sSeq (sFor (aItR2 (aCons (aC (.int 1)) (aCons (aVar 1) (aNil)))) (gN 7) (sExpr (aM isL mAppend (aVar 5) (aCons (aTup (aCons (aOp fIx (aVar 4) (aVar 7)) (aCons (aIf (aTr (aVar 6)) (aOp fIx (aVar 4) (aOp fSub (aVar 7) (aC (.int 1)))) (aOp fIx (aVar 4) (aCall 3 m__law_pour (aCons (aVar 0) (aCons (aVar 7) (aCons (aC (.int 1)) (aNil))))))) (aNil)))) (aNil))))) (sSeq (sIf (tAnd (aTr (aVar 6)) (aB (aOp fGt (aVar 1) (aC (.int 1))))) (sExpr (aM isL mAppend (aVar 5) (aCons (aTup (aCons (aOp fIx (aVar 4) (aC (.int 0))) (aCons (aOp fIx (aVar 4) (aUn fNeg (aC (.int 1)))) (aNil)))) (aNil)))) (sNext)) (sSeq (sSet 8 (aIf (aB (aOp fGt (aVar 1) (aC (.int 1)))) (aCall 3 m__law_pour (aCons (aVar 0) (aCons (aOp fAdd (aFn fnMax (aCons (aC (.int 0)) (aCons (aOp fSub (aVar 2) (aFn fnLen (aCons (aVar 5) (aNil)))) (aNil)))) (aC (.int 1))) (aCons (aC (.int 2)) (aNil))))) (aC (.int 0)))) (sSeq (sFor (aItR1 (aCons (aVar 8) (aNil))) (gN 9) (sIf (aB (aOp fEq (aCall 3 m__law_pour (aCons (aVar 0) (aCons (aC (.int 4)) (aCons (aC (.int 3)) (aNil))))) (aC (.int 0)))) (sExpr (aM isL mAppend (aVar 5) (aCons (aOp fIx (aVar 5) (aCall 3 m__law_pour (aCons (aVar 0) (aCons (aFn fnLen (aCons (aVar 5) (aNil))) (aCons (aC (.int 8)) (aNil)))))) (aNil)))) (sSeq (sSet 10 (aCall 3 m__law_pour (aCons (aVar 0) (aCons (aVar 1) (aCons (aC (.int 8)) (aNil)))))) (sExpr (aM isL mAppend (aVar 5) (aCons (aTup (aCons (aVar 10) (aCons (aOp fMod (aFn fnInt (aCons (aOp fAdd (aOp fAdd (aVar 10) (aC (.int 1))) (aCall 3 m__law_pour (aCons (aVar 0) (aCons (aOp fSub (aVar 1) (aC (.int 1))) (aCons (aC (.int 8)) (aNil)))))) (aNil))) (aVar 1)) (aNil)))) (aNil))))))) (sSeq (sSet 11 (aCut (aCall 2 m__law_mix (aCons (aVar 0) (aCons (aLst (aCons (aC (.str "k")) (aCons (aC (.str "l1")) (aCons (aC (.str "m2")) (aCons (aC (.str "n")) (aCons (aC (.str "o77")) (aCons (aC (.str "pq")) (aCons (aC (.str "q")) (aCons (aC (.str "r")) (aCons (aC (.str "s5")) (aCons (aC (.str "t")) (aCons (aC (.str "u")) (aCons (aC (.str "v8")) (aCons (aC (.str "w")) (aCons (aC (.str "x")) (aCons (aC (.str "y")) (aCons (aC (.str "z0")) (aCons (aC (.str "aa")) (aCons (aC (.str "ab")) (aCons (aC (.str "ac")) (aCons (aC (.str "ad")) (aCons (aC (.str "ae")) (aNil))))))))))))))))))))))) (aNil)))))) (sSeq (sSet 5 (aCall 2 m__law_mix (aCons (aVar 0) (aCons (aVar 5) (aNil))))) (sSeq (sSet 12 (aLst (aNil))) (sSeq (sFor (aItR1 (aCons (aFn fnLen (aCons (aVar 5) (aNil))) (aNil))) (gN 7) (sSeq (sAsg (aOp fIx (aVar 5) (aVar 7)) (gTup' 2 (gCons' (gN 10) (gCons' (gN 13) (gNil'))))) (sExpr (aM isL mAppend (aVar 12) (aCons (aIf (aB (aOp fEq (aCall 3 m__law_pour (aCons (aVar 0) (aCons (aC (.int 2)) (aCons (aC (.int 8)) (aNil))))) (aC (.int 0)))) (aTup (aCons (aOp fIx (aVar 11) (aVar 7)) (aCons (aVar 10) (aCons (aVar 13) (aNil))))) (aTup (aCons (aOp fIx (aVar 11) (aVar 7)) (aCons (aVar 13) (aCons (aVar 10) (aNil)))))) (aNil)))))) (sRet (aTup (aCons (aFn fnTuple (aCons (aSl (aVar 3) (aNoP) (aSoP (aVar 1))) (aNil))) (aCons (aFn fnTuple (aCons (aVar 12) (aNil))) (aNil))))))))))))))))
def m__law_net : FN := mDef false 14 b__law_net
def b__law_is_state : AS := sSeq (sIf (tNot (aTr (aFn fnIsi (aCons (aVar 1) (aCons (aC (.raw (.ty "tuple"))) (aNil)))))) (sRet (aC (.bl false))) (sNext)) (sSeq (sFor (aItR1 (aCons (aFn fnLen (aCons (aVar 1) (aNil))) (aNil))) (gN 2) (sSeq (sIf (tOr (tNot (aTr (aFn fnIsi (aCons (aOp fIx (aVar 1) (aVar 2)) (aCons (aC (.raw (.ty "int"))) (aNil)))))) (tOr (aTr (aFn fnIsi (aCons (aOp fIx (aVar 1) (aVar 2)) (aCons (aC (.raw (.ty "bool"))) (aNil))))) (tNot (aB (aChain fLe fLt (aC (.int 0)) (aOp fIx (aVar 1) (aVar 2)) (aFn fnLen (aCons (aOp fIx (aVar 0) (aC (.int 1))) (aNil)))))))) (sRet (aC (.bl false))) (sNext)) (sIf (tAnd (aB (aOp fGt (aVar 2) (aC (.int 0)))) (aB (aOp fLe (aOp fIx (aVar 1) (aVar 2)) (aOp fIx (aVar 1) (aOp fSub (aVar 2) (aC (.int 1))))))) (sRet (aC (.bl false))) (sNext)))) (sRet (aCall 2 m__law_is_tree (aCons (aVar 0) (aCons (aVar 1) (aNil))))))
def m__law_is_state : FN := mDef false 3 b__law_is_state
def b_need_together : AS := sIf (tNot (aTr (aCall 2 m_hangs_together (aCons (aVar 0) (aCons (aCall 1 m_all_lines (aCons (aVar 0) (aNil))) (aNil)))))) (sRaise Errs.BadStep ["word"] (aCons (aC (.str "apart")) (aNil))) (sNext)
def m_need_together : FN := mDef false 1 b_need_together
def b_is_tree : AS := sSeq (sIf (tOr (tNot (aTr (aCall 2 m_is_line_set (aCons (aVar 0) (aCons (aVar 1) (aNil)))))) (aB (aOp fNe (aFn fnLen (aCons (aVar 1) (aNil))) (aOp fSub (aFn fnLen (aCons (aOp fIx (aVar 0) (aC (.int 0))) (aNil))) (aC (.int 1)))))) (sRet (aC (.bl false))) (sNext)) (sRet (aCall 2 m_hangs_together (aCons (aVar 0) (aCons (aVar 1) (aNil)))))
def m_is_tree : FN := mDef false 2 b_is_tree
def b_best_by : AS := sSeq (sSet 2 (aCut (aLc (aItS (aFn fnSortA (aCons (aLc (aItS (aCall 1 m_all_lines (aCons (aVar 0) (aNil)))) [3] (gN 3) (tYes') (aTup (aCons (aUn fNeg (aOp fIx (aVar 1) (aVar 3))) (aCons (aVar 3) (aNil))))) (aNil)))) [4, 3] (gTup' 2 (gCons' (gN 4) (gCons' (gN 3) (gNil')))) (tYes') (aVar 3)))) (sRet (aCall 2 m_grown_by (aCons (aVar 0) (aCons (aVar 2) (aNil)))))
def m_best_by : FN := mDef false 5 b_best_by
noncomputable def b__law_holds : AS := sSeq (sIf (tOr (tNot (aTr (aFn fnIsi (aCons (aVar 3) (aCons (aC (.raw (.ty "tuple"))) (aNil)))))) (tOr (aB (aOp fNe (aFn fnLen (aCons (aVar 3) (aNil))) (aC (.int 2)))) (tNot (aTr (aCall 2 m__law_same (aCons (aOp fIx (aVar 3) (aC (.int 0))) (aCons (aVar 2) (aNil)))))))) (sRet (aC (.bl false))) (sNext)) (sRet (aAnd (aCall 2 m__law_is_state (aCons (aVar 0) (aCons (aOp fIx (aVar 3) (aC (.int 1))) (aNil)))) (aOp fEq (aCall 2 m__law_worth (aCons (aVar 1) (aCons (aOp fIx (aVar 3) (aC (.int 1))) (aNil)))) (aVar 2))))
noncomputable def m__law_holds : FN := mDef false 4 b__law_holds
def b_best_tree : AS := sSeq (sExpr (aCall 1 m_need_together (aCons (aVar 0) (aNil)))) (sSeq (sSet 2 (aCall 2 m_best_by (aCons (aVar 0) (aCons (aVar 1) (aNil))))) (sRet (aTup (aCons (aCall 2 m_worth_of (aCons (aVar 1) (aCons (aVar 2) (aNil)))) (aCons (aVar 2) (aNil))))))
def m_best_tree : FN := mDef false 3 b_best_tree
def b_is_best : AS := sSeq (sSet 3 (aOp fIx (aCall 2 m_best_tree (aCons (aVar 0) (aCons (aVar 1) (aNil)))) (aC (.int 0)))) (sSeq (sIf (tOr (tNot (aTr (aCall 2 m_tuple_of (aCons (aVar 2) (aCons (aC (.int 2)) (aNil)))))) (tOr (tNot (aTr (aCall 1 m_is_integer (aCons (aOp fIx (aVar 2) (aC (.int 0))) (aNil))))) (tNot (aTr (aCall 2 m_is_tree (aCons (aVar 0) (aCons (aOp fIx (aVar 2) (aC (.int 1))) (aNil)))))))) (sRet (aC (.bl false))) (sNext)) (sRet (aAnd (aOp fEq (aOp fIx (aVar 2) (aC (.int 0))) (aVar 3)) (aOp fEq (aCall 2 m_worth_of (aCons (aVar 1) (aCons (aOp fIx (aVar 2) (aC (.int 1))) (aNil)))) (aVar 3)))))
def m_is_best : FN := mDef false 4 b_is_best
noncomputable def b__law_small : AS := sSeq (sSet 2 (aCall 2 m__law_worths (aCons (aVar 0) (aCons (aVar 1) (aNil))))) (sSeq (sSet 3 (aCall 1 m__law_trees (aCons (aVar 1) (aNil)))) (sSeq (sSet 4 (aCut (aFn fnMax (aCons (aLc (aItS (aVar 3)) [7] (gN 7) (tYes') (aCall 2 m__law_worth (aCons (aVar 2) (aCons (aVar 7) (aNil))))) (aNil))))) (sSeq (sSet 5 (aIf (aB (aOp fEq (aCall 3 m__law_pour (aCons (aVar 0) (aCons (aC (.int 2)) (aCons (aC (.int 8)) (aNil))))) (aC (.int 0)))) (aCall 2 m_best_tree (aCons (aVar 1) (aCons (aVar 2) (aNil)))) (aCallK 2 2 0 [1, 0] m_best_tree aNil (aCons (aVar 2) (aCons (aVar 1) (aNil)))))) (sSeq (sIf (tNot (aTr (aCall 4 m__law_holds (aCons (aVar 1) (aCons (aVar 2) (aCons (aVar 4) (aCons (aVar 5) (aNil)))))))) (sRet (aC (.bl false))) (sNext)) (sSeq (sSet 6 (aCut (aLc (aItS (aVar 3)) [7] (gN 7) (aB (aOp fEq (aCall 2 m__law_worth (aCons (aVar 2) (aCons (aVar 7) (aNil)))) (aVar 4))) (aVar 7)))) (sSeq (sPar 7 8 (aCons (aOp fIx (aVar 6) (aCall 3 m__law_pour (aCons (aVar 0) (aCons (aFn fnLen (aCons (aVar 6) (aNil))) (aCons (aC (.int 8)) (aNil)))))) (aCons (aOp fIx (aVar 3) (aCall 3 m__law_pour (aCons (aVar 0) (aCons (aFn fnLen (aCons (aVar 3) (aNil))) (aCons (aC (.int 8)) (aNil)))))) (aNil)))) (sSeq (sFor (aItS (aTup (aCons (aTup (aCons (aVar 4) (aCons (aVar 7) (aNil)))) (aCons (aTup (aCons (aCall 2 m__law_worth (aCons (aVar 2) (aCons (aVar 8) (aNil)))) (aCons (aVar 8) (aNil)))) (aCons (aTup (aCons (aVar 4) (aCons (aVar 8) (aNil)))) (aNil)))))) (gN 9) (sIf (tNot (aTr (aCall 2 m__law_same (aCons (aCall 3 m_is_best (aCons (aVar 1) (aCons (aVar 2) (aCons (aVar 9) (aNil))))) (aCons (aCall 4 m__law_holds (aCons (aVar 1) (aCons (aVar 2) (aCons (aVar 4) (aCons (aVar 9) (aNil)))))) (aNil)))))) (sRet (aC (.bl false))) (sNext))) (sSeq (sFor (aItR1 (aCons (aC (.int 4)) (aNil))) (gN 10) (sSeq (sSet 9 (aCall 3 m__law_bent (aCons (aVar 0) (aCons (aVar 1) (aCons (aTup (aCons (aVar 4) (aCons (aVar 7) (aNil)))) (aNil)))))) (sIf (tNot (aTr (aCall 2 m__law_same (aCons (aCallK 3 3 0 [2, 1, 0] m_is_best aNil (aCons (aVar 9) (aCons (aVar 2) (aCons (aVar 1) (aNil))))) (aCons (aCall 4 m__law_holds (aCons (aVar 1) (aCons (aVar 2) (aCons (aVar 4) (aCons (aVar 9) (aNil)))))) (aNil)))))) (sRet (aC (.bl false))) (sNext)))) (sRet (aCall 2 m__law_same (aCons (aTup (aCons (aCall 2 m_worth_of (aCons (aVar 2) (aCons (aVar 8) (aNil)))) (aCons (aCallK 2 2 0 [1, 0] m_worth_of aNil (aCons (aVar 7) (aCons (aVar 2) (aNil)))) (aNil)))) (aCons (aTup (aCons (aCall 2 m__law_worth (aCons (aVar 2) (aCons (aVar 8) (aNil)))) (aCons (aVar 4) (aNil)))) (aNil)))))))))))))
noncomputable def m__law_small : FN := mDef false 11 b__law_small
noncomputable def b__law_wide : AS := sSeq (sSet 2 (aCall 2 m__law_worths (aCons (aVar 0) (aCons (aVar 1) (aNil))))) (sSeq (sSet 3 (aCall 2 m__law_greedy (aCons (aVar 1) (aCons (aVar 2) (aNil))))) (sSeq (sSet 4 (aCall 2 m__law_worth (aCons (aVar 2) (aCons (aVar 3) (aNil))))) (sSeq (sIf (tOr (tNot (aTr (aCall 4 m__law_holds (aCons (aVar 1) (aCons (aVar 2) (aCons (aVar 4) (aCons (aCall 2 m_best_tree (aCons (aVar 1) (aCons (aVar 2) (aNil)))) (aNil)))))))) (aB (aOp fNotB (aCall 3 m_is_best (aCons (aVar 1) (aCons (aVar 2) (aCons (aTup (aCons (aVar 4) (aCons (aVar 3) (aNil)))) (aNil))))) (aC (.bl true))))) (sRet (aC (.bl false))) (sNext)) (sSeq (sSet 5 (aCall 3 m__law_bent (aCons (aVar 0) (aCons (aVar 1) (aCons (aTup (aCons (aVar 4) (aCons (aVar 3) (aNil)))) (aNil)))))) (sRet (aCall 2 m__law_same (aCons (aCall 3 m_is_best (aCons (aVar 1) (aCons (aVar 2) (aCons (aVar 5) (aNil))))) (aCons (aCall 4 m__law_holds (aCons (aVar 1) (aCons (aVar 2) (aCons (aVar 4) (aCons (aVar 5) (aNil)))))) (aNil)))))))))
noncomputable def m__law_wide : FN := mDef false 6 b__law_wide
def b__law_apart : AS := sSeq (sSet 2 (aCut (aTup (aCons (aTup (aCons (aC (.str "p")) (aCons (aC (.str "q")) (aCons (aC (.str "r")) (aNil))))) (aCons (aSl (aTup (aCons (aTup (aCons (aC (.str "k")) (aCons (aC (.int 0)) (aCons (aC (.int 1)) (aNil))))) (aCons (aTup (aCons (aC (.str "l")) (aCons (aC (.int 1)) (aCons (aC (.int 0)) (aNil))))) (aNil)))) (aNoP) (aSoP (aCall 3 m__law_pour (aCons (aVar 0) (aCons (aC (.int 3)) (aCons (aC (.int 8)) (aNil))))))) (aNil)))))) (sSeq (sIf (aB (aOp fEq (aCall 3 m__law_pour (aCons (aVar 0) (aCons (aC (.int 2)) (aCons (aC (.int 8)) (aNil))))) (aC (.int 0)))) (sSet 2 (aTup (aCons (aTup (aCons (aC (.str "p")) (aCons (aC (.str "q")) (aCons (aC (.str "r")) (aCons (aC (.str "s")) (aNil)))))) (aCons (aTup (aCons (aTup (aCons (aC (.str "k")) (aCons (aC (.int 2)) (aCons (aC (.int 1)) (aNil))))) (aCons (aTup (aCons (aC (.str "l")) (aCons (aC (.int 0)) (aCons (aC (.int 3)) (aNil))))) (aNil)))) (aNil))))) (sNext)) (sSeq (sTry 3 [Errs.BadStep] (sIf (aB (aOp fEq (aVar 1) (aC (.int 0)))) (sExpr (aCall 2 m_best_tree (aCons (aVar 2) (aCons (aOp fMul (aTup (aCons (aC (.int 3)) (aNil))) (aFn fnLen (aCons (aOp fIx (aVar 2) (aC (.int 1))) (aNil)))) (aNil))))) (sExpr (aCall 3 m_is_best (aCons (aVar 2) (aCons (aOp fMul (aTup (aCons (aC (.int 3)) (aNil))) (aFn fnLen (aCons (aOp fIx (aVar 2) (aC (.int 1))) (aNil)))) (aCons (aTup (aCons (aC (.int 0)) (aCons (aTup (aNil)) (aNil)))) (aNil))))))) (fun c fs => aIf (tXi c [(Errs.BadStep, true)]) (aXf fs "word") (aC (.str "another")))) (sRet (aC (.str "")))))
def m__law_apart : FN := mDef false 4 b__law_apart
noncomputable def b_law : AS := sSeq (sSet 1 (aCall 1 m__law_kettle (aCons (aVar 0) (aNil)))) (sSeq (sIf (tNot (aTr (aCall 2 m__law_same (aCons (aCall 2 m__law_apart (aCons (aVar 1) (aCons (aCall 3 m__law_pour (aCons (aVar 1) (aCons (aC (.int 2)) (aCons (aC (.int 8)) (aNil))))) (aNil)))) (aCons (aC (.str "apart")) (aNil)))))) (sRet (aC (.bl false))) (sNext)) (sSeq (sFor (aItR1 (aCons (aC (.int 3)) (aNil))) (gN 2) (sIf (tNot (aTr (aCall 2 m__law_small (aCons (aVar 1) (aCons (aCall 3 m__law_net (aCons (aVar 1) (aCons (aOp fAdd (aC (.int 2)) (aCall 3 m__law_pour (aCons (aVar 1) (aCons (aC (.int 4)) (aCons (aC (.int 8)) (aNil)))))) (aCons (aC (.int 8)) (aNil))))) (aNil)))))) (sRet (aC (.bl false))) (sNext))) (sSeq (sSet 3 (aTup (aCons (aTup (aCons (aC (.str "a")) (aCons (aC (.str "b")) (aCons (aC (.str "c")) (aCons (aC (.str "d")) (aNil)))))) (aCons (aTup (aCons (aTup (aCons (aC (.str "l0")) (aCons (aC (.int 0)) (aCons (aC (.int 1)) (aNil))))) (aCons (aTup (aCons (aC (.str "l1")) (aCons (aC (.int 1)) (aCons (aC (.int 2)) (aNil))))) (aCons (aTup (aCons (aC (.str "l2")) (aCons (aC (.int 2)) (aCons (aC (.int 3)) (aNil))))) (aCons (aTup (aCons (aC (.str "l3")) (aCons (aC (.int 0)) (aCons (aC (.int 3)) (aNil))))) (aCons (aTup (aCons (aC (.str "l4")) (aCons (aC (.int 0)) (aCons (aC (.int 2)) (aNil))))) (aNil))))))) (aNil))))) (sSeq (sIf (tOr (tNot (aTr (aCall 2 m__law_same (aCons (aCall 2 m_best_tree (aCons (aVar 3) (aCons (aTup (aCons (aC (.int 1)) (aCons (aC (.int 5)) (aCons (aC (.int 1)) (aCons (aC (.int 5)) (aCons (aC (.int 2)) (aNil))))))) (aNil)))) (aCons (aTup (aCons (aC (.int 12)) (aCons (aTup (aCons (aC (.int 1)) (aCons (aC (.int 3)) (aCons (aC (.int 4)) (aNil))))) (aNil)))) (aNil)))))) (aB (aOp fNotB (aCall 3 m_is_best (aCons (aVar 3) (aCons (aTup (aCons (aC (.int 1)) (aCons (aC (.int 5)) (aCons (aC (.int 1)) (aCons (aC (.int 5)) (aCons (aC (.int 2)) (aNil))))))) (aCons (aTup (aCons (aC (.int 12)) (aCons (aTup (aCons (aC (.int 1)) (aCons (aC (.int 3)) (aCons (aC (.int 4)) (aNil))))) (aNil)))) (aNil))))) (aC (.bl true))))) (sRet (aC (.bl false))) (sNext)) (sSeq (sSet 4 (aOp fSub (aUn fNeg (aC (.int 1))) (aCall 3 m__law_pour (aCons (aVar 1) (aCons (aC (.int 20)) (aCons (aC (.int 8)) (aNil))))))) (sSeq (sSet 5 (aTup (aCons (aCall 3 m_is_best (aCons (aVar 3) (aCons (aOp fMul (aTup (aCons (aVar 4) (aNil))) (aC (.int 5))) (aCons (aTup (aCons (aOp fMul (aC (.int 3)) (aVar 4)) (aCons (aTup (aCons (aC (.int 0)) (aCons (aC (.int 1)) (aCons (aC (.int 2)) (aNil))))) (aNil)))) (aNil))))) (aCons (aCall 3 m_is_best (aCons (aVar 3) (aCons (aOp fMul (aTup (aCons (aVar 4) (aNil))) (aC (.int 5))) (aCons (aTup (aCons (aOp fMul (aC (.int 3)) (aVar 4)) (aCons (aTup (aCons (aC (.int 0)) (aCons (aC (.int 1)) (aCons (aC (.int 4)) (aNil))))) (aNil)))) (aNil))))) (aNil))))) (sSeq (sSet 5 (aOp fAdd (aVar 5) (aTup (aCons (aCall 3 m_is_best (aCons (aVar 3) (aCons (aOp fMul (aTup (aCons (aVar 4) (aNil))) (aC (.int 5))) (aCons (aTup (aCons (aOp fMul (aC (.int 2)) (aVar 4)) (aCons (aTup (aCons (aC (.int 0)) (aCons (aC (.int 1)) (aNil)))) (aNil)))) (aNil))))) (aCons (aCall 3 m_is_best (aCons (aVar 3) (aCons (aOp fMul (aTup (aCons (aVar 4) (aNil))) (aC (.int 5))) (aCons (aTup (aCons (aC (.int 0)) (aCons (aTup (aNil)) (aNil)))) (aNil))))) (aNil)))))) (sSeq (sIf (tOr (tNot (aTr (aCall 2 m__law_same (aCons (aVar 5) (aCons (aTup (aCons (aC (.bl true)) (aCons (aC (.bl false)) (aCons (aC (.bl false)) (aCons (aC (.bl false)) (aNil)))))) (aNil)))))) (tNot (aTr (aCall 4 m__law_holds (aCons (aVar 3) (aCons (aOp fMul (aTup (aCons (aVar 4) (aNil))) (aC (.int 5))) (aCons (aOp fMul (aC (.int 3)) (aVar 4)) (aCons (aCall 2 m_best_tree (aCons (aVar 3) (aCons (aOp fMul (aTup (aCons (aVar 4) (aNil))) (aC (.int 5))) (aNil)))) (aNil))))))))) (sRet (aC (.bl false))) (sNext)) (sSeq (sIf (tNot (aTr (aCall 2 m__law_same (aCons (aTup (aCons (aCall 2 m_best_tree (aCons (aTup (aCons (aTup (aCons (aC (.str "p")) (aNil))) (aCons (aTup (aNil)) (aNil)))) (aCons (aTup (aNil)) (aNil)))) (aCons (aCall 3 m_is_best (aCons (aTup (aCons (aTup (aCons (aC (.str "p")) (aNil))) (aCons (aTup (aNil)) (aNil)))) (aCons (aTup (aNil)) (aCons (aTup (aCons (aC (.int 0)) (aCons (aTup (aNil)) (aNil)))) (aNil))))) (aCons (aCall 3 m_is_best (aCons (aTup (aCons (aTup (aCons (aC (.str "p")) (aNil))) (aCons (aTup (aNil)) (aNil)))) (aCons (aTup (aNil)) (aCons (aTup (aCons (aC (.bl false)) (aCons (aTup (aNil)) (aNil)))) (aNil))))) (aNil))))) (aCons (aTup (aCons (aTup (aCons (aC (.int 0)) (aCons (aTup (aNil)) (aNil)))) (aCons (aC (.bl true)) (aCons (aC (.bl false)) (aNil))))) (aNil)))))) (sRet (aC (.bl false))) (sNext)) (sRet (aOr (aOp fNe (aCall 3 m__law_pour (aCons (aVar 1) (aCons (aC (.int 13)) (aCons (aC (.int 8)) (aNil))))) (aC (.int 5))) (aCall 2 m__law_wide (aCons (aVar 1) (aCons (aCall 3 m__law_net (aCons (aVar 1) (aCons (aC (.int 10)) (aCons (aC (.int 20)) (aNil))))) (aNil)))))))))))))))
noncomputable def m_law : FN := mDef false 6 b_law
/-- what the top has written -/
structure Txt (P : Program) (K : PySem.W.Frag) (mg : Str → Option Value) where
  eg_BadStep : mg "BadStep" = some (.ref Errs.BadStep)
  eg_NetError : mg "NetError" = some (.ref Errs.NetError)
  ec_BadStep : ErrC K Errs.BadStep
  xf_BadStep : XfC K Errs.BadStep
  ei_BadStep : InitK P K Errs.BadStep si_BadStep
  fn_BadStep_word : PySem.W.findIn K (.ref Errs.BadStep) "word" = some none
  xe_BadStep : ExcC K Errs.BadStep
  kt_BadStep_BadStep : PySem.W.kitOne K (.ref Errs.BadStep) (.ref Errs.BadStep) = some true
  xm_BadStep_NetError : PySem.W.exmOne K (.ref Errs.BadStep) (.ref Errs.NetError) = some true
  p_super : (P.main.scope.names.lookup ("super" : Str)).isSome = false
  f_is_integer : Addr
  d_is_integer : FuncData
  g_is_integer : mg "is_integer" = some (.ref f_is_integer)
  F_is_integer : Fun K "is_integer" "is_integer" s_is_integer f_is_integer d_is_integer
  b_is_integer : Binds K d_is_integer ["thing"] []
  f_tuple_of : Addr
  d_tuple_of : FuncData
  g_tuple_of : mg "tuple_of" = some (.ref f_tuple_of)
  F_tuple_of : Fun K "tuple_of" "tuple_of" s_tuple_of f_tuple_of d_tuple_of
  b_tuple_of : Binds K d_tuple_of ["thing", "many"] []
  f_ends_of : Addr
  d_ends_of : FuncData
  g_ends_of : mg "ends_of" = some (.ref f_ends_of)
  F_ends_of : Fun K "ends_of" "ends_of" s_ends_of f_ends_of d_ends_of
  b_ends_of : Binds K d_ends_of ["net", "line"] []
  f_merged : Addr
  d_merged : FuncData
  g_merged : mg "merged" = some (.ref f_merged)
  F_merged : Fun K "merged" "merged" s_merged f_merged d_merged
  b_merged : Binds K d_merged ["homes", "one", "other"] []
  f_all_lines : Addr
  d_all_lines : FuncData
  g_all_lines : mg "all_lines" = some (.ref f_all_lines)
  F_all_lines : Fun K "all_lines" "all_lines" s_all_lines f_all_lines d_all_lines
  b_all_lines : Binds K d_all_lines ["net"] []
  f_worth_of : Addr
  d_worth_of : FuncData
  g_worth_of : mg "worth_of" = some (.ref f_worth_of)
  F_worth_of : Fun K "worth_of" "worth_of" s_worth_of f_worth_of d_worth_of
  b_worth_of : Binds K d_worth_of ["worths", "tree"] []
  f__law_kettle : Addr
  d__law_kettle : FuncData
  g__law_kettle : mg "_law_kettle" = some (.ref f__law_kettle)
  F__law_kettle : Fun K "_law_kettle" "_law_kettle" s__law_kettle f__law_kettle d__law_kettle
  b__law_kettle : Binds K d__law_kettle ["script"] []
  f__law_pour : Addr
  d__law_pour : FuncData
  g__law_pour : mg "_law_pour" = some (.ref f__law_pour)
  F__law_pour : Fun K "_law_pour" "_law_pour" s__law_pour f__law_pour d__law_pour
  b__law_pour : Binds K d__law_pour ["kettle", "many", "spout"] []
  f__law_same : Addr
  d__law_same : FuncData
  g__law_same : mg "_law_same" = some (.ref f__law_same)
  F__law_same : Fun K "_law_same" "_law_same" s__law_same f__law_same d__law_same
  b__law_same : Binds K d__law_same ["told", "due"] []
  f__law_groups : Addr
  d__law_groups : FuncData
  g__law_groups : mg "_law_groups" = some (.ref f__law_groups)
  F__law_groups : Fun K "_law_groups" "_law_groups" s__law_groups f__law_groups d__law_groups
  b__law_groups : Binds K d__law_groups ["net", "lines"] []
  f__law_forest : Addr
  d__law_forest : FuncData
  g__law_forest : mg "_law_forest" = some (.ref f__law_forest)
  F__law_forest : Fun K "_law_forest" "_law_forest" s__law_forest f__law_forest d__law_forest
  b__law_forest : Binds K d__law_forest ["net", "lines"] []
  f__law_trees : Addr
  d__law_trees : FuncData
  g__law_trees : mg "_law_trees" = some (.ref f__law_trees)
  F__law_trees : Fun K "_law_trees" "_law_trees" s__law_trees f__law_trees d__law_trees
  b__law_trees : Binds K d__law_trees ["net"] []
  f__law_worth : Addr
  d__law_worth : FuncData
  g__law_worth : mg "_law_worth" = some (.ref f__law_worth)
  F__law_worth : Fun K "_law_worth" "_law_worth" s__law_worth f__law_worth d__law_worth
  b__law_worth : Binds K d__law_worth ["worths", "tree"] []
  f_integer_within : Addr
  d_integer_within : FuncData
  g_integer_within : mg "integer_within" = some (.ref f_integer_within)
  F_integer_within : Fun K "integer_within" "integer_within" s_integer_within f_integer_within d_integer_within
  b_integer_within : Binds K d_integer_within ["thing", "low", "high"] []
  f_homes_by : Addr
  d_homes_by : FuncData
  g_homes_by : mg "homes_by" = some (.ref f_homes_by)
  F_homes_by : Fun K "homes_by" "homes_by" s_homes_by f_homes_by d_homes_by
  b_homes_by : Binds K d_homes_by ["net", "lines"] []
  f__law_mix : Addr
  d__law_mix : FuncData
  g__law_mix : mg "_law_mix" = some (.ref f__law_mix)
  F__law_mix : Fun K "_law_mix" "_law_mix" s__law_mix f__law_mix d__law_mix
  b__law_mix : Binds K d__law_mix ["kettle", "things"] []
  f__law_is_tree : Addr
  d__law_is_tree : FuncData
  g__law_is_tree : mg "_law_is_tree" = some (.ref f__law_is_tree)
  F__law_is_tree : Fun K "_law_is_tree" "_law_is_tree" s__law_is_tree f__law_is_tree d__law_is_tree
  b__law_is_tree : Binds K d__law_is_tree ["net", "lines"] []
  f__law_worths : Addr
  d__law_worths : FuncData
  g__law_worths : mg "_law_worths" = some (.ref f__law_worths)
  F__law_worths : Fun K "_law_worths" "_law_worths" s__law_worths f__law_worths d__law_worths
  b__law_worths : Binds K d__law_worths ["kettle", "net"] []
  f__law_greedy : Addr
  d__law_greedy : FuncData
  g__law_greedy : mg "_law_greedy" = some (.ref f__law_greedy)
  F__law_greedy : Fun K "_law_greedy" "_law_greedy" s__law_greedy f__law_greedy d__law_greedy
  b__law_greedy : Binds K d__law_greedy ["net", "worths"] []
  f__law_bent : Addr
  d__law_bent : FuncData
  g__law_bent : mg "_law_bent" = some (.ref f__law_bent)
  F__law_bent : Fun K "_law_bent" "_law_bent" s__law_bent f__law_bent d__law_bent
  b__law_bent : Binds K d__law_bent ["kettle", "net", "right"] []
  f_hangs_together : Addr
  d_hangs_together : FuncData
  g_hangs_together : mg "hangs_together" = some (.ref f_hangs_together)
  F_hangs_together : Fun K "hangs_together" "hangs_together" s_hangs_together f_hangs_together d_hangs_together
  b_hangs_together : Binds K d_hangs_together ["net", "lines"] []
  f_is_line_set : Addr
  d_is_line_set : FuncData
  g_is_line_set : mg "is_line_set" = some (.ref f_is_line_set)
  F_is_line_set : Fun K "is_line_set" "is_line_set" s_is_line_set f_is_line_set d_is_line_set
  b_is_line_set : Binds K d_is_line_set ["net", "thing"] []
  f_grown_by : Addr
  d_grown_by : FuncData
  g_grown_by : mg "grown_by" = some (.ref f_grown_by)
  F_grown_by : Fun K "grown_by" "grown_by" s_grown_by f_grown_by d_grown_by
  b_grown_by : Binds K d_grown_by ["net", "lines"] []
  f__law_net : Addr
  d__law_net : FuncData
  g__law_net : mg "_law_net" = some (.ref f__law_net)
  F__law_net : Fun K "_law_net" "_law_net" s__law_net f__law_net d__law_net
  b__law_net : Binds K d__law_net ["kettle", "many", "most"] []
  f__law_is_state : Addr
  d__law_is_state : FuncData
  g__law_is_state : mg "_law_is_state" = some (.ref f__law_is_state)
  F__law_is_state : Fun K "_law_is_state" "_law_is_state" s__law_is_state f__law_is_state d__law_is_state
  b__law_is_state : Binds K d__law_is_state ["net", "thing"] []
  f_need_together : Addr
  d_need_together : FuncData
  g_need_together : mg "need_together" = some (.ref f_need_together)
  F_need_together : Fun K "need_together" "need_together" s_need_together f_need_together d_need_together
  b_need_together : Binds K d_need_together ["net"] []
  f_is_tree : Addr
  d_is_tree : FuncData
  g_is_tree : mg "is_tree" = some (.ref f_is_tree)
  F_is_tree : Fun K "is_tree" "is_tree" s_is_tree f_is_tree d_is_tree
  b_is_tree : Binds K d_is_tree ["net", "thing"] []
  f_best_by : Addr
  d_best_by : FuncData
  g_best_by : mg "best_by" = some (.ref f_best_by)
  F_best_by : Fun K "best_by" "best_by" s_best_by f_best_by d_best_by
  b_best_by : Binds K d_best_by ["net", "worths"] []
  f__law_holds : Addr
  d__law_holds : FuncData
  g__law_holds : mg "_law_holds" = some (.ref f__law_holds)
  F__law_holds : Fun K "_law_holds" "_law_holds" s__law_holds f__law_holds d__law_holds
  b__law_holds : Binds K d__law_holds ["net", "worths", "most", "thing"] []
  f_best_tree : Addr
  d_best_tree : FuncData
  g_best_tree : mg "best_tree" = some (.ref f_best_tree)
  F_best_tree : Fun K "best_tree" "best_tree" s_best_tree f_best_tree d_best_tree
  b_best_tree : Binds K d_best_tree ["net", "worths"] []
  f_is_best : Addr
  d_is_best : FuncData
  g_is_best : mg "is_best" = some (.ref f_is_best)
  F_is_best : Fun K "is_best" "is_best" s_is_best f_is_best d_is_best
  b_is_best : Binds K d_is_best ["net", "worths", "thing"] []
  f__law_small : Addr
  d__law_small : FuncData
  g__law_small : mg "_law_small" = some (.ref f__law_small)
  F__law_small : Fun K "_law_small" "_law_small" s__law_small f__law_small d__law_small
  b__law_small : Binds K d__law_small ["kettle", "net"] []
  f__law_wide : Addr
  d__law_wide : FuncData
  g__law_wide : mg "_law_wide" = some (.ref f__law_wide)
  F__law_wide : Fun K "_law_wide" "_law_wide" s__law_wide f__law_wide d__law_wide
  b__law_wide : Binds K d__law_wide ["kettle", "net"] []
  f__law_apart : Addr
  d__law_apart : FuncData
  g__law_apart : mg "_law_apart" = some (.ref f__law_apart)
  F__law_apart : Fun K "_law_apart" "_law_apart" s__law_apart f__law_apart d__law_apart
  b__law_apart : Binds K d__law_apart ["kettle", "which"] []
  f_law : Addr
  d_law : FuncData
  g_law : mg "law" = some (.ref f_law)
  F_law : Fun K "law" "law" s_law f_law d_law
  b_law : Binds K d_law ["script"] []
  n_abs : mg "abs" = none
  n_all : mg "all" = none
  n_bool : mg "bool" = none
  n_enumerate : mg "enumerate" = none
  n_int : mg "int" = none
  n_isinstance : mg "isinstance" = none
  n_len : mg "len" = none
  n_list : mg "list" = none
  n_max : mg "max" = none
  n_min : mg "min" = none
  n_range : mg "range" = none
  n_set : mg "set" = none
  n_sorted : mg "sorted" = none
  n_str : mg "str" = none
  n_sum : mg "sum" = none
  n_super : mg "super" = none
  n_tuple : mg "tuple" = none
theorem kb_best_tree_0_worths_net {P : Program} {K : PySem.W.Frag} {mg : Str → Option Value} (T : Txt P K mg) : KB K T.d_best_tree ["net", "worths"] ["worths", "net"] 0 [1, 0] := by
  obtain ⟨oc, od, kV, doc, pm, an, cdv, ct, osl, e, lk, hcd⟩ := T.F_best_tree.ex
  rw [e]
  exact ⟨fun s us ws _ h1 h2 => match us, ws, h1, h2 with | [], [_, _], _, _ => .of_eq rfl⟩
theorem kb_is_best_0_thing_worths_net {P : Program} {K : PySem.W.Frag} {mg : Str → Option Value} (T : Txt P K mg) : KB K T.d_is_best ["net", "worths", "thing"] ["thing", "worths", "net"] 0 [2, 1, 0] := by
  obtain ⟨oc, od, kV, doc, pm, an, cdv, ct, osl, e, lk, hcd⟩ := T.F_is_best.ex
  rw [e]
  exact ⟨fun s us ws _ h1 h2 => match us, ws, h1, h2 with | [], [_, _, _], _, _ => .of_eq rfl⟩
theorem kb_worth_of_0_tree_worths {P : Program} {K : PySem.W.Frag} {mg : Str → Option Value} (T : Txt P K mg) : KB K T.d_worth_of ["worths", "tree"] ["tree", "worths"] 0 [1, 0] := by
  obtain ⟨oc, od, kV, doc, pm, an, cdv, ct, osl, e, lk, hcd⟩ := T.F_worth_of.ex
  rw [e]
  exact ⟨fun s us ws _ h1 h2 => match us, ws, h1, h2 with | [], [_, _], _, _ => .of_eq rfl⟩
section
variable {P : Program} {w : World} {K : PySem.W.Frag} {mg : Str → Option Value} {base : Heap} (T : Txt P K mg)
include T in
theorem et_BadStep : ErrT P w K mg base "BadStep" Errs.BadStep ["word"] := by
  obtain ⟨f, cc, c, doc, pm, ctv, oc, occ, coc, od, odc, cod, osl, slc, cosl, cvs, file, tf, q, iC, tI, lI, lc, cI, lcd, hv, hf⟩ := T.ei_BadStep.ex
  exact ⟨T.ec_BadStep, T.eg_BadStep, ⟨f, _, ["self", "word"], iC, tI, err_init1 (F := ⟨"__init__", q, defArgs si_BadStep, defBody si_BadStep, defScope si_BadStep, [(("__class__" : Str), cc)], c⟩) T.ec_BadStep T.fn_BadStep_word (show NdefX.NScope _ _ _ (defScope si_BadStep) from NdefX.nscope_by (by decide +kernel)) lI rfl lc cI lcd hv hf T.p_super rfl rfl T.n_super rfl (fun env => ⟨_, rfl⟩), Binds.all (fun us hl => match us, hl with | [_, _], _ => rfl)⟩, by decide⟩
theorem ok_is_integer : FnA P w K mg base 1 T.f_is_integer T.d_is_integer ["thing"] m_is_integer := by
  have sc := sc_is_integer
  refine fn_def (k := 0) false T.F_is_integer sc fun cdv A outer s H E hr tk hp => ?_
  exact (jss_one (js_ret (je_and (je_bi j_isi T.n_isinstance boot_isinstance (ja_cons (jv 0) (ja_cons (je_bty T.n_int boot_int) ja_nil))) (je_one (je_not (je_bi j_isi T.n_isinstance boot_isinstance (ja_cons (jv 0) (ja_cons (je_bty T.n_bool boot_bool) ja_nil))))))))
theorem ok_tuple_of : FnA P w K mg base 1 T.f_tuple_of T.d_tuple_of ["thing", "many"] m_tuple_of := by
  have sc := sc_tuple_of
  refine fn_def (k := 0) false T.F_tuple_of sc fun cdv A outer s H E hr tk hp => ?_
  exact (jss_one (js_ret (je_and (je_bi j_isi T.n_isinstance boot_isinstance (ja_cons (jv 0) (ja_cons (je_bty T.n_tuple boot_tuple) ja_nil))) (je_one (je_cmp j_eq (je_bi j_len T.n_len boot_len (ja_cons (jv 0) ja_nil)) (jv 1))))))
theorem ok_ends_of : FnA P w K mg base 1 T.f_ends_of T.d_ends_of ["net", "line"] m_ends_of := by
  have sc := sc_ends_of
  refine fn_def (k := 0) false T.F_ends_of sc fun cdv A outer s H E hr tk hp => ?_
  exact (jss_one (js_ret (je_sl (je_ix (je_ix (jv 0) je_int) (jv 1)) (jp_some je_int) jp_none)))
theorem ok_merged : FnA P w K mg base 1 T.f_merged T.d_merged ["homes", "one", "other"] m_merged := by
  have sc := sc_merged
  refine fn_def (k := 0) false T.F_merged sc fun cdv A outer s H E hr tk hp => ?_
  exact (jss_cons (js_set 3 sc.nd (je_ix (jv 0) (jv 1)))
      (jss_cons (js_set 4 sc.nd (je_ix (jv 0) (jv 2)))
      (jss_cons (js_if (jt_cmp j_eq (jv 3) (jv 4)) (jss_one (js_ret je_bl)) jss_nil)
      (jss_cons (js_for hp rfl (ji_seq (je_lstEn rfl T.n_list T.n_enumerate (jv 0))) (jg_tup rfl (jgs_cons (jg_name 5 sc.nd) (jgs_cons (jg_name 6 sc.nd) jgs_nil))) (jss_one (js_if (jt_cmp j_eq (jv 6) (jv 4)) (jss_one (js_asg (jv 3) (jg_subL (jv 0) (jv 5)))) jss_nil)))
      (jss_one (js_ret je_bl))))))
theorem ok_all_lines : FnA P w K mg base 1 T.f_all_lines T.d_all_lines ["net"] m_all_lines := by
  have sc := sc_all_lines
  refine fn_def (k := 0) false T.F_all_lines sc fun cdv A outer s H E hr tk hp => ?_
  exact (jss_one (js_ret (je_tupRg1 rfl T.n_tuple T.n_range (je_bi j_len T.n_len boot_len (ja_cons (je_ix (jv 0) je_int) ja_nil)))))
theorem ok_worth_of : FnA P w K mg base 1 T.f_worth_of T.d_worth_of ["worths", "tree"] m_worth_of := by
  have sc := sc_worth_of
  refine fn_def (k := 0) false T.F_worth_of sc fun cdv A outer s H E hr tk hp => ?_
  exact (jss_one (js_ret (je_bi (j_sum rfl) T.n_sum boot_sum (ja_cons (je_lc rfl sc.nd (own := [("line", 2)]) (ji_seq (jv 1)) (blkOk_by (N := sN_worth_of) (sc := defScope s_worth_of) (by decide +kernel)) (fun _ _ _ _ _ => (jgw_name 2 sc.nd)) (fun _ _ _ _ _ => by exact jts_nil) (fun _ _ _ _ _ => by exact (je_ix (jv 0) (jv 2)))) ja_nil))))
theorem ok__law_kettle : FnA P w K mg base 1 T.f__law_kettle T.d__law_kettle ["script"] m__law_kettle := by
  have sc := sc__law_kettle
  refine fn_def (k := 0) true T.F__law_kettle sc fun cdv A outer s H E hr tk hp => ?_
  exact (jss_cons (js_set 1 sc.nd (je_lst ja_nil))
      (jss_cons (js_set 2 sc.nd je_int)
      (jss_cons (js_for hp rfl (ji_seq (je_sl (jv 0) jp_none (jp_some je_int))) (jg_name 3 sc.nd) (jss_cons (js_set 4 sc.nd (je_op j_mod (je_bi j_abs T.n_abs boot_abs (ja_cons (je_ty j_int T.n_int boot_int (ja_cons (jv 3) ja_nil)) ja_nil)) (je_op j_shl je_int je_int)))
      (jss_cons (js_set 2 sc.nd (je_op j_mod (je_ty j_int T.n_int boot_int (ja_cons (je_op j_add (je_op j_add (je_op j_mul (jv 2) je_int) (je_op j_mod (jv 4) je_int)) je_int) ja_nil)) je_int))
      (jss_one (js_if (jt_cmp j_ge (jv 4) (je_op j_pow je_int je_int)) (jss_one (js_expr (je_m j_append tya_list (jv 1) (ja_cons (jv 4) ja_nil)))) jss_nil)))))
      (jss_cons (js_set 5 sc.nd (je_op j_add (jv 2) je_int))
      (jss_cons (js_set 6 sc.nd (je_lst ja_nil))
      (jss_cons (js_for hp rfl (ji_rg1 T.n_range (ja_cons je_int ja_nil)) (jg_name 7 sc.nd) (jss_cons (js_set 5 sc.nd (je_op j_mod (je_ty j_int T.n_int boot_int (ja_cons (je_op j_add (je_op j_mul (jv 5) je_int) je_int) ja_nil)) je_int))
      (jss_one (js_expr (je_m j_append tya_list (jv 6) (ja_cons (je_ix (je_tup (ja_cons je_int (ja_cons je_int (ja_cons je_int (ja_cons je_int (ja_cons je_int (ja_cons je_int (ja_cons je_int (ja_cons je_int ja_nil))))))))) (je_op j_mod (je_ty j_int T.n_int boot_int (ja_cons (je_op j_fdiv (jv 5) je_int) ja_nil)) je_int)) ja_nil))))))
      (jss_one (js_ret (je_lst (ja_cons (jv 1) (ja_cons (jv 2) (ja_cons (jv 6) (ja_cons (jv 5) ja_nil)))))))))))))
theorem ok__law_pour : FnA P w K mg base 1 T.f__law_pour T.d__law_pour ["kettle", "many", "spout"] m__law_pour := by
  have sc := sc__law_pour
  refine fn_def (k := 0) false T.F__law_pour sc fun cdv A outer s H E hr tk hp => ?_
  exact (jss_cons (js_for hp rfl (ji_rg1 T.n_range (ja_cons (je_bi j_len T.n_len boot_len (ja_cons (je_ix (jv 0) je_int) ja_nil)) ja_nil)) (jg_name 3 sc.nd) (jss_one (js_if (jt_cmp j_gt (je_ix (je_ix (jv 0) je_int) (jv 3)) je_int) (jss_cons (js_set 4 sc.nd (je_op j_mod (je_ty j_int T.n_int boot_int (ja_cons (je_ix (je_ix (jv 0) je_int) (jv 3)) ja_nil)) (jv 1)))
      (jss_cons (js_asg (je_op j_fdiv (je_ix (je_ix (jv 0) je_int) (jv 3)) (jv 1)) (jg_subL (je_ix (jv 0) je_int) (jv 3)))
      (jss_one (js_ret (jv 4))))) jss_nil)))
      (jss_cons (js_asg (je_op j_mod (je_ty j_int T.n_int boot_int (ja_cons (je_op j_add (je_op j_mul (je_ix (jv 0) je_int) je_int) je_int) ja_nil)) je_int) (jg_subL (jv 0) je_int))
      (jss_cons (js_set 5 sc.nd (je_if (jt_cmp j_lt (jv 2) je_int) (je_ix (je_ix (jv 0) je_int) (jv 2)) je_int))
      (jss_cons (js_if (jt_cmp j_eq (jv 5) je_int) (jss_one (js_ret (je_op j_mod (je_ty j_int T.n_int boot_int (ja_cons (je_op j_fdiv (je_ix (jv 0) je_int) je_int) ja_nil)) (jv 1)))) jss_nil)
      (jss_one (js_ret (je_if (jt_cmp j_eq (jv 5) je_int) (je_op j_mod (je_ty j_int T.n_int boot_int (ja_cons (je_op j_fdiv (je_ix (jv 0) je_int) je_int) ja_nil)) (jv 1)) (je_op j_mul (jv 5) (je_op j_sub (jv 1) je_int)))))))))
theorem ok__law_same : FnA P w K mg base 1 T.f__law_same T.d__law_same ["told", "due"] m__law_same := by
  have sc := sc__law_same
  refine fn_def (k := 0) false T.F__law_same sc fun cdv A outer s H E hr tk hp => ?_
  exact (jss_cons (js_set 2 sc.nd (je_lst (ja_cons (je_tup (ja_cons (jv 0) (ja_cons (jv 1) ja_nil))) ja_nil)))
      (jss_cons (js_while hp (jt_cmp j_gt (je_bi j_len T.n_len boot_len (ja_cons (jv 2) ja_nil)) je_int) (jss_cons (js_asg (je_m0 j_pop tya_list (jv 2)) (jg_tup rfl (jgs_cons (jg_name 3 sc.nd) (jgs_cons (jg_name 4 sc.nd) jgs_nil))))
      (jss_cons (js_if (jt_cmp j_isN (jv 4) je_non) (jss_one (js_set 5 sc.nd (je_cmp j_isN (jv 3) je_non))) (jss_one (js_if (jt_truth (je_bi j_isi T.n_isinstance boot_isinstance (ja_cons (jv 4) (ja_cons (je_bty T.n_bool boot_bool) ja_nil)))) (jss_one (js_set 5 sc.nd (je_and (je_bi j_isi T.n_isinstance boot_isinstance (ja_cons (jv 3) (ja_cons (je_bty T.n_bool boot_bool) ja_nil))) (je_one (je_cmp j_eq (jv 3) (jv 4)))))) (jss_one (js_if (jt_truth (je_bi j_isi T.n_isinstance boot_isinstance (ja_cons (jv 4) (ja_cons (je_bty T.n_str boot_str) ja_nil)))) (jss_one (js_set 5 sc.nd (je_and (je_bi j_isi T.n_isinstance boot_isinstance (ja_cons (jv 3) (ja_cons (je_bty T.n_str boot_str) ja_nil))) (je_one (je_cmp j_eq (jv 3) (jv 4)))))) (jss_one (js_if (jt_truth (je_bi j_isi T.n_isinstance boot_isinstance (ja_cons (jv 4) (ja_cons (je_bty T.n_int boot_int) ja_nil)))) (jss_one (js_set 5 sc.nd (je_and (je_bi j_isi T.n_isinstance boot_isinstance (ja_cons (jv 3) (ja_cons (je_bty T.n_int boot_int) ja_nil))) (je_and (je_not (je_bi j_isi T.n_isinstance boot_isinstance (ja_cons (jv 3) (ja_cons (je_bty T.n_bool boot_bool) ja_nil)))) (je_one (je_cmp j_eq (jv 3) (jv 4))))))) (jss_cons (js_set 5 sc.nd (je_if (jt_truth (je_bi j_isi T.n_isinstance boot_isinstance (ja_cons (jv 4) (ja_cons (je_bty T.n_tuple boot_tuple) ja_nil)))) (je_bi j_isi T.n_isinstance boot_isinstance (ja_cons (jv 3) (ja_cons (je_bty T.n_tuple boot_tuple) ja_nil))) (je_bi j_isi T.n_isinstance boot_isinstance (ja_cons (jv 3) (ja_cons (je_bty T.n_list boot_list) ja_nil)))))
      (jss_cons (js_set 5 sc.nd (je_and (jv 5) (je_one (je_cmp j_eq (je_bi j_len T.n_len boot_len (ja_cons (jv 3) ja_nil)) (je_bi j_len T.n_len boot_len (ja_cons (jv 4) ja_nil))))))
      (jss_one (js_if (jt_truth (jv 5)) (jss_one (js_expr (je_m j_extend tya_list (jv 2) (ja_cons (je_lc rfl sc.nd (own := [("at", 6)]) (ji_rg1 T.n_range (ja_cons (je_bi j_len T.n_len boot_len (ja_cons (jv 4) ja_nil)) ja_nil)) (blkOk_by (N := sN__law_same) (sc := defScope s__law_same) (by decide +kernel)) (fun _ _ _ _ _ => (jgw_name 6 sc.nd)) (fun _ _ _ _ _ => by exact jts_nil) (fun _ _ _ _ _ => by exact (je_tup (ja_cons (je_ix (jv 3) (jv 6)) (ja_cons (je_ix (jv 4) (jv 6)) ja_nil))))) ja_nil)))) jss_nil)))))))))))
      (jss_one (js_if (jt_not (jt_truth (jv 5))) (jss_one (js_ret je_bl)) jss_nil)))))
      (jss_one (js_ret je_bl))))
theorem ok__law_groups : FnA P w K mg base 1 T.f__law_groups T.d__law_groups ["net", "lines"] m__law_groups := by
  have sc := sc__law_groups
  refine fn_def (k := 0) false T.F__law_groups sc fun cdv A outer s H E hr tk hp => ?_
  exact (jss_cons (js_set 2 sc.nd (je_cut (je_lstRg1 rfl T.n_list T.n_range (je_bi j_len T.n_len boot_len (ja_cons (je_ix (jv 0) je_int) ja_nil)))))
      (jss_cons (js_for hp rfl (ji_seq (jv 1)) (jg_name 3 sc.nd) (jss_cons (js_asg (je_tup (ja_cons (je_ix (jv 2) (je_ix (je_ix (je_ix (jv 0) je_int) (jv 3)) je_int)) (ja_cons (je_ix (jv 2) (je_ix (je_ix (je_ix (jv 0) je_int) (jv 3)) je_int)) ja_nil))) (jg_tup rfl (jgs_cons (jg_name 4 sc.nd) (jgs_cons (jg_name 5 sc.nd) jgs_nil))))
      (jss_one (js_if (jt_cmp j_ne (jv 4) (jv 5)) (jss_one (js_cut 2 (js_setLc 2 rfl sc.nd (own := [("group", 6)]) (ji_seq (jv 2)) (blkOk_by (N := sN__law_groups) (sc := defScope s__law_groups) (by decide +kernel)) (fun _ _ _ _ _ => (jgw_name 6 sc.nd)) (fun _ _ _ _ _ => by exact jts_nil) (fun _ _ _ _ _ => by exact (je_if (jt_cmp j_in (jv 6) (je_tup (ja_cons (jv 4) (ja_cons (jv 5) ja_nil)))) (je_bi (j_min rfl) T.n_min boot_min (ja_cons (jv 4) (ja_cons (jv 5) ja_nil))) (jv 6)))))) jss_nil))))
      (jss_one (js_ret (jv 2)))))
theorem ok__law_forest : FnA P w K mg base 1 T.f__law_forest T.d__law_forest ["net", "lines"] m__law_forest := by
  have sc := sc__law_forest
  refine fn_def (k := 0) false T.F__law_forest sc fun cdv A outer s H E hr tk hp => ?_
  exact (jss_cons (js_set 2 sc.nd (je_lst ja_nil))
      (jss_cons (js_set 3 sc.nd (je_cut (je_lstRg1 rfl T.n_list T.n_range (je_bi j_len T.n_len boot_len (ja_cons (je_ix (jv 0) je_int) ja_nil)))))
      (jss_cons (js_for hp rfl (ji_seq (jv 1)) (jg_name 4 sc.nd) (jss_cons (js_asg (je_tup (ja_cons (je_ix (jv 3) (je_ix (je_ix (je_ix (jv 0) je_int) (jv 4)) je_int)) (ja_cons (je_ix (jv 3) (je_ix (je_ix (je_ix (jv 0) je_int) (jv 4)) je_int)) ja_nil))) (jg_tup rfl (jgs_cons (jg_name 5 sc.nd) (jgs_cons (jg_name 6 sc.nd) jgs_nil))))
      (jss_one (js_if (jt_cmp j_ne (jv 5) (jv 6)) (jss_cons (js_cut 3 (js_setLc 3 rfl sc.nd (own := [("group", 7)]) (ji_seq (jv 3)) (blkOk_by (N := sN__law_forest) (sc := defScope s__law_forest) (by decide +kernel)) (fun _ _ _ _ _ => (jgw_name 7 sc.nd)) (fun _ _ _ _ _ => by exact jts_nil) (fun _ _ _ _ _ => by exact (je_if (jt_cmp j_in (jv 7) (je_tup (ja_cons (jv 5) (ja_cons (jv 6) ja_nil)))) (je_bi (j_min rfl) T.n_min boot_min (ja_cons (jv 5) (ja_cons (jv 6) ja_nil))) (jv 7)))))
      (jss_one (js_expr (je_m j_append tya_list (jv 2) (ja_cons (jv 4) ja_nil))))) jss_nil))))
      (jss_one (js_ret (je_ty j_tuple T.n_tuple boot_tuple (ja_cons (je_bi j_sortLT T.n_sorted boot_sorted (ja_cons (jv 2) ja_nil)) ja_nil)))))))
theorem ok__law_trees : FnA P w K mg base 1 T.f__law_trees T.d__law_trees ["net"] m__law_trees := by
  have sc := sc__law_trees
  refine fn_def (k := 0) false T.F__law_trees sc fun cdv A outer s H E hr tk hp => ?_
  exact (jss_cons (js_set 1 sc.nd (je_cut (je_lst (ja_cons (je_tup (ja_cons (je_tup ja_nil) (ja_cons (je_tupRg1 rfl T.n_tuple T.n_range (je_bi j_len T.n_len boot_len (ja_cons (je_ix (jv 0) je_int) ja_nil))) ja_nil))) ja_nil))))
      (jss_cons (js_for hp rfl (ji_rg1 T.n_range (ja_cons (je_bi j_len T.n_len boot_len (ja_cons (je_ix (jv 0) je_int) ja_nil)) ja_nil)) (jg_name 2 sc.nd) (jss_cons (js_set 3 sc.nd (je_lst ja_nil))
      (jss_cons (js_for hp rfl (ji_seq (jv 1)) (jg_tup rfl (jgs_cons (jg_name 4 sc.nd) (jgs_cons (jg_name 5 sc.nd) jgs_nil))) (jss_cons (js_asg (je_tup (ja_cons (je_ix (jv 5) (je_ix (je_ix (je_ix (jv 0) je_int) (jv 2)) je_int)) (ja_cons (je_ix (jv 5) (je_ix (je_ix (je_ix (jv 0) je_int) (jv 2)) je_int)) ja_nil))) (jg_tup rfl (jgs_cons (jg_name 6 sc.nd) (jgs_cons (jg_name 7 sc.nd) jgs_nil))))
      (jss_one (js_if (jt_cmp j_ne (jv 6) (jv 7)) (jss_cons (js_set 8 sc.nd (je_bi (j_min rfl) T.n_min boot_min (ja_cons (jv 6) (ja_cons (jv 7) ja_nil))))
      (jss_one (js_expr (je_m j_append tya_list (jv 3) (ja_cons (je_tup (ja_cons (je_op j_add (jv 4) (je_tup (ja_cons (jv 2) ja_nil))) (ja_cons (je_ty j_tuple T.n_tuple boot_tuple (ja_cons (je_lc rfl sc.nd (own := [("group", 9)]) (ji_seq (jv 5)) (blkOk_by (N := sN__law_trees) (sc := defScope s__law_trees) (by decide +kernel)) (fun _ _ _ _ _ => (jgw_name 9 sc.nd)) (fun _ _ _ _ _ => by exact jts_nil) (fun _ _ _ _ _ => by exact (je_if (jt_cmp j_in (jv 9) (je_tup (ja_cons (jv 6) (ja_cons (jv 7) ja_nil)))) (jv 8) (jv 9)))) ja_nil)) ja_nil))) ja_nil))))) jss_nil))))
      (jss_one (js_set 1 sc.nd (je_op j_add (jv 1) (jv 3)))))))
      (jss_one (js_ret (je_bi j_sortT T.n_sorted boot_sorted (ja_cons (je_lc rfl sc.nd (own := [("lines", 4), ("groups", 5)]) (ji_seq (jv 1)) (blkOk_by (N := sN__law_trees) (sc := defScope s__law_trees) (by decide +kernel)) (fun _ _ _ _ _ => (jgw_tup rfl (jgsw_cons (jgw_name 4 sc.nd) (jgsw_cons (jgw_name 5 sc.nd) jgsw_nil)))) (fun _ _ _ _ _ => by exact (jts_one (jt_cmp j_eq (je_bi j_len T.n_len boot_len (ja_cons (jv 4) ja_nil)) (je_op j_sub (je_bi j_len T.n_len boot_len (ja_cons (je_ix (jv 0) je_int) ja_nil)) je_int)))) (fun _ _ _ _ _ => by exact (jv 4))) ja_nil))))))
theorem ok__law_worth : FnA P w K mg base 1 T.f__law_worth T.d__law_worth ["worths", "tree"] m__law_worth := by
  have sc := sc__law_worth
  refine fn_def (k := 0) false T.F__law_worth sc fun cdv A outer s H E hr tk hp => ?_
  exact (jss_one (js_ret (je_bi (j_sum rfl) T.n_sum boot_sum (ja_cons (je_lc rfl sc.nd (own := [("line", 2)]) (ji_seq (jv 1)) (blkOk_by (N := sN__law_worth) (sc := defScope s__law_worth) (by decide +kernel)) (fun _ _ _ _ _ => (jgw_name 2 sc.nd)) (fun _ _ _ _ _ => by exact jts_nil) (fun _ _ _ _ _ => by exact (je_ix (jv 0) (jv 2)))) ja_nil))))
theorem ok_integer_within : FnA P w K mg base 2 T.f_integer_within T.d_integer_within ["thing", "low", "high"] m_integer_within := by
  have sc := sc_integer_within
  refine fn_def (k := 1) false T.F_integer_within sc fun cdv A outer s H E hr tk hp => ?_
  exact (jss_one (js_ret (je_and (je_call (ok_is_integer T) hr T.g_is_integer T.F_is_integer.kp T.b_is_integer tk (ja_cons (jv 0) ja_nil)) (je_one (je_chain j_le j_le (jv 1) (jv 0) (jv 2))))))
theorem ok_homes_by : FnA P w K mg base 2 T.f_homes_by T.d_homes_by ["net", "lines"] m_homes_by := by
  have sc := sc_homes_by
  refine fn_def (k := 1) true T.F_homes_by sc fun cdv A outer s H E hr tk hp => ?_
  exact (jss_cons (js_set 2 sc.nd (je_lstRg1 rfl T.n_list T.n_range (je_bi j_len T.n_len boot_len (ja_cons (je_ix (jv 0) je_int) ja_nil))))
      (jss_cons (js_for hp rfl (ji_seq (jv 1)) (jg_name 3 sc.nd) (jss_cons (js_asg (je_call (ok_ends_of T) hr T.g_ends_of T.F_ends_of.kp T.b_ends_of tk (ja_cons (jv 0) (ja_cons (jv 3) ja_nil))) (jg_tup rfl (jgs_cons (jg_name 4 sc.nd) (jgs_cons (jg_name 5 sc.nd) jgs_nil))))
      (jss_one (js_expr (je_call (ok_merged T) hr T.g_merged T.F_merged.kp T.b_merged tk (ja_cons (jv 2) (ja_cons (jv 4) (ja_cons (jv 5) ja_nil))))))))
      (jss_one (js_ret (jv 2)))))
theorem ok__law_mix : FnA P w K mg base 2 T.f__law_mix T.d__law_mix ["kettle", "things"] m__law_mix := by
  have sc := sc__law_mix
  refine fn_def (k := 1) false T.F__law_mix sc fun cdv A outer s H E hr tk hp => ?_
  exact (jss_cons (js_set 2 sc.nd (je_lst ja_nil))
      (jss_cons (js_for hp rfl (ji_seq (jv 1)) (jg_name 3 sc.nd) (jss_one (js_expr (je_m j_insert tya_list (jv 2) (ja_cons (je_call (ok__law_pour T) hr T.g__law_pour T.F__law_pour.kp T.b__law_pour tk (ja_cons (jv 0) (ja_cons (je_op j_add (je_bi j_len T.n_len boot_len (ja_cons (jv 2) ja_nil)) je_int) (ja_cons je_int ja_nil)))) (ja_cons (jv 3) ja_nil))))))
      (jss_one (js_ret (jv 2)))))
theorem ok__law_is_tree : FnA P w K mg base 2 T.f__law_is_tree T.d__law_is_tree ["net", "lines"] m__law_is_tree := by
  have sc := sc__law_is_tree
  refine fn_def (k := 1) false T.F__law_is_tree sc fun cdv A outer s H E hr tk hp => ?_
  exact (jss_one (js_ret (je_and (je_cmp j_eq (je_bi j_len T.n_len boot_len (ja_cons (jv 1) ja_nil)) (je_op j_sub (je_bi j_len T.n_len boot_len (ja_cons (je_ix (jv 0) je_int) ja_nil)) je_int)) (je_one (je_cmp j_eq (je_bi (j_max rfl) T.n_max boot_max (ja_cons (je_call (ok__law_groups T) hr T.g__law_groups T.F__law_groups.kp T.b__law_groups tk (ja_cons (jv 0) (ja_cons (jv 1) ja_nil))) ja_nil)) je_int)))))
theorem ok__law_worths : FnA P w K mg base 2 T.f__law_worths T.d__law_worths ["kettle", "net"] m__law_worths := by
  have sc := sc__law_worths
  refine fn_def (k := 1) false T.F__law_worths sc fun cdv A outer s H E hr tk hp => ?_
  exact (jss_cons (js_set 2 sc.nd (je_ix (je_tup (ja_cons je_int (ja_cons je_int (ja_cons je_int (ja_cons je_int ja_nil))))) (je_call (ok__law_pour T) hr T.g__law_pour T.F__law_pour.kp T.b__law_pour tk (ja_cons (jv 0) (ja_cons je_int (ja_cons je_int ja_nil))))))
      (jss_one (js_ret (je_ty j_tuple T.n_tuple boot_tuple (ja_cons (je_lc rfl sc.nd (own := [("line", 3)]) (ji_seq (je_ix (jv 1) je_int)) (blkOk_by (N := sN__law_worths) (sc := defScope s__law_worths) (by decide +kernel)) (fun _ _ _ _ _ => (jgw_name 3 sc.nd)) (fun _ _ _ _ _ => by exact jts_nil) (fun _ _ _ _ _ => by exact (je_ix (je_tup (ja_cons (je_op j_sub (by exact (je_call (ok__law_pour T) hr T.g__law_pour T.F__law_pour.kp T.b__law_pour takes0 (ja_cons (jv 0) (ja_cons (je_op j_add (je_op j_mul je_int (jv 2)) je_int) (ja_cons je_int ja_nil))))) (jv 2)) (ja_cons je_int (ja_cons (je_neg je_int) (ja_cons je_int ja_nil))))) (je_op j_fdiv (by exact (je_call (ok__law_pour T) hr T.g__law_pour T.F__law_pour.kp T.b__law_pour takes0 (ja_cons (jv 0) (ja_cons je_int (ja_cons je_int ja_nil))))) je_int)))) ja_nil)))))
theorem ok__law_greedy : FnA P w K mg base 2 T.f__law_greedy T.d__law_greedy ["net", "worths"] m__law_greedy := by
  have sc := sc__law_greedy
  refine fn_def (k := 1) false T.F__law_greedy sc fun cdv A outer s H E hr tk hp => ?_
  exact (jss_cons (js_set 2 sc.nd (je_lstRg1 rfl T.n_list T.n_range (je_bi j_len T.n_len boot_len (ja_cons (je_ix (jv 0) je_int) ja_nil))))
      (jss_cons (js_set 3 sc.nd (je_lst ja_nil))
      (jss_cons (js_while hp (jt_cmp j_gt (je_bi j_len T.n_len boot_len (ja_cons (jv 2) ja_nil)) je_int) (jss_cons (js_set 4 sc.nd (je_ix (jv 2) je_int))
      (jss_cons (js_for hp rfl (ji_seq (jv 2)) (jg_name 5 sc.nd) (jss_one (js_set 4 sc.nd (je_if (jt_cmp j_gt (je_ix (jv 1) (jv 5)) (je_ix (jv 1) (jv 4))) (jv 5) (jv 4)))))
      (jss_cons (js_expr (je_m j_append tya_list (jv 3) (ja_cons (jv 4) ja_nil)))
      (jss_one (js_expr (je_m j_remI tya_list (jv 2) (ja_cons (jv 4) ja_nil))))))))
      (jss_one (js_ret (je_call (ok__law_forest T) hr T.g__law_forest T.F__law_forest.kp T.b__law_forest tk (ja_cons (jv 0) (ja_cons (jv 3) ja_nil))))))))
theorem ok__law_bent : FnA P w K mg base 2 T.f__law_bent T.d__law_bent ["kettle", "net", "right"] m__law_bent := by
  have sc := sc__law_bent
  refine fn_def (k := 1) false T.F__law_bent sc fun cdv A outer s H E hr tk hp => ?_
  exact (jss_cons (js_asg (jv 2) (jg_tup rfl (jgs_cons (jg_name 3 sc.nd) (jgs_cons (jg_name 4 sc.nd) jgs_nil))))
      (jss_cons (js_set 5 sc.nd (je_call (ok__law_pour T) hr T.g__law_pour T.F__law_pour.kp T.b__law_pour tk (ja_cons (jv 0) (ja_cons (je_op j_add (je_bi j_len T.n_len boot_len (ja_cons (jv 4) ja_nil)) je_int) (ja_cons je_int ja_nil)))))
      (jss_cons (js_set 6 sc.nd (je_ix (je_tup (ja_cons je_int (ja_cons je_bl (ja_cons je_bl (ja_cons (je_neg je_int) (ja_cons (je_bi j_len T.n_len boot_len (ja_cons (je_ix (jv 1) je_int) ja_nil)) (ja_cons je_non (ja_cons je_str (ja_cons je_int ja_nil))))))))) (je_call (ok__law_pour T) hr T.g__law_pour T.F__law_pour.kp T.b__law_pour tk (ja_cons (jv 0) (ja_cons je_int (ja_cons je_int ja_nil))))))
      (jss_cons (js_set 7 sc.nd (je_cut (je_lst (ja_cons (je_tup (ja_cons (je_op j_add (jv 3) je_int) (ja_cons (jv 4) ja_nil))) (ja_cons (je_tup (ja_cons (je_op j_sub (jv 3) je_int) (ja_cons (jv 4) ja_nil))) (ja_cons (je_tup (ja_cons (jv 3) (ja_cons (je_revT (jv 4)) ja_nil))) (ja_cons (je_tup (ja_cons (jv 3) (ja_cons (je_ty j_list T.n_list boot_list (ja_cons (jv 4) ja_nil)) ja_nil))) (ja_cons (je_lst (ja_cons (jv 3) (ja_cons (jv 4) ja_nil))) (ja_cons (je_tup (ja_cons (jv 4) (ja_cons (jv 3) ja_nil))) (ja_cons (je_tup (ja_cons (jv 3) ja_nil)) (ja_cons (je_op j_add (jv 2) (je_tup (ja_cons je_int ja_nil))) (ja_cons je_non ja_nil))))))))))))
      (jss_cons (js_set 7 sc.nd (je_cut (je_op j_add (je_op j_add (jv 7) (je_op j_mul (je_lst (ja_cons (je_tup (ja_cons (jv 3) (ja_cons (je_op j_add (je_op j_add (je_sl (jv 4) jp_none (jp_some (jv 5))) (je_tup (ja_cons (jv 6) ja_nil))) (je_sl (jv 4) (jp_some (je_op j_add (jv 5) je_int)) jp_none)) ja_nil))) ja_nil)) je_int)) (je_lst (ja_cons (je_tup (ja_cons (jv 3) (ja_cons (je_op j_add (je_sl (jv 4) jp_none (jp_some (jv 5))) (je_sl (jv 4) (jp_some (je_op j_add (jv 5) je_int)) jp_none)) ja_nil))) (ja_cons (je_tup (ja_cons (jv 3) (ja_cons (je_op j_add (jv 4) (je_sl (jv 4) jp_none (jp_some je_int))) ja_nil))) (ja_cons (je_tup (ja_cons (je_cmp j_eq (jv 3) je_int) (ja_cons (jv 4) ja_nil))) ja_nil)))))))
      (jss_cons (js_set 7 sc.nd (je_cut (je_op j_add (jv 7) (je_lst (ja_cons (je_tup (ja_cons (je_ty j_strOf T.n_str boot_str (ja_cons (jv 3) ja_nil)) (ja_cons (jv 4) ja_nil))) (ja_cons (je_tup (ja_cons je_non (ja_cons (jv 4) ja_nil))) (ja_cons (je_tup (ja_cons (jv 3) (ja_cons je_non ja_nil))) (ja_cons (jv 4) (ja_cons (jv 3) (ja_cons (je_tup (ja_cons je_bl (ja_cons (jv 4) ja_nil))) (ja_cons (je_tup (ja_cons je_bl (ja_cons (jv 4) ja_nil))) ja_nil)))))))))))
      (jss_one (js_ret (je_ix (jv 7) (je_call (ok__law_pour T) hr T.g__law_pour T.F__law_pour.kp T.b__law_pour tk (ja_cons (jv 0) (ja_cons (je_bi j_len T.n_len boot_len (ja_cons (jv 7) ja_nil)) (ja_cons je_int ja_nil)))))))))))))
theorem ok_hangs_together : FnA P w K mg base 3 T.f_hangs_together T.d_hangs_together ["net", "lines"] m_hangs_together := by
  have sc := sc_hangs_together
  refine fn_def (k := 2) false T.F_hangs_together sc fun cdv A outer s H E hr tk hp => ?_
  exact (jss_one (js_ret (je_cmp j_eq (je_lenSet rfl T.n_len T.n_set (je_call (ok_homes_by T) hr T.g_homes_by T.F_homes_by.kp T.b_homes_by tk (ja_cons (jv 0) (ja_cons (jv 1) ja_nil)))) je_int)))
theorem ok_is_line_set : FnA P w K mg base 3 T.f_is_line_set T.d_is_line_set ["net", "thing"] m_is_line_set := by
  have sc := sc_is_line_set
  refine fn_def (k := 2) false T.F_is_line_set sc fun cdv A outer s H E hr tk hp => ?_
  exact (jss_cons (js_if (jt_cut (jt_bool (jw_or (jt_not (jt_truth (je_bi j_isi T.n_isinstance boot_isinstance (ja_cons (jv 1) (ja_cons (je_bty T.n_tuple boot_tuple) ja_nil))))) (jw_or1 (jt_not (jt_truth (je_bi (j_all rfl) T.n_all boot_all (ja_cons (je_lc rfl sc.nd (own := [("line", 2)]) (ji_seq (jv 1)) (blkOk_by (N := sN_is_line_set) (sc := defScope s_is_line_set) (by decide +kernel)) (fun _ _ _ _ _ => (jgw_name 2 sc.nd)) (fun _ _ _ _ _ => by exact jts_nil) (fun _ _ _ _ _ => by exact (by exact (je_call (ok_integer_within T) hr T.g_integer_within T.F_integer_within.kp T.b_integer_within takes0 (ja_cons (jv 2) (ja_cons je_int (ja_cons (je_op j_sub (je_bi j_len T.n_len boot_len (ja_cons (je_ix (jv 0) je_int) ja_nil)) je_int) ja_nil))))))) ja_nil)))))))) (jss_one (js_ret je_bl)) jss_nil)
      (jss_one (js_ret (je_cmp (j_eqZ (hu65 hr)) (je_ty j_list T.n_list boot_list (ja_cons (jv 1) ja_nil)) (je_sortSet rfl T.n_sorted T.n_set (jv 1))))))
theorem ok_grown_by : FnA P w K mg base 3 T.f_grown_by T.d_grown_by ["net", "lines"] m_grown_by := by
  have sc := sc_grown_by
  refine fn_def (k := 2) false T.F_grown_by sc fun cdv A outer s H E hr tk hp => ?_
  have hrL1 := hr.mono (show 1 ≤ 2 by decide)
  exact (jss_cons (js_set 2 sc.nd (je_call (ok_homes_by T) hr T.g_homes_by T.F_homes_by.kp T.b_homes_by tk (ja_cons (jv 0) (ja_cons (je_tup ja_nil) ja_nil))))
      (jss_cons (js_set 3 sc.nd (je_lst ja_nil))
      (jss_cons (js_for hp rfl (ji_seq (jv 1)) (jg_name 4 sc.nd) (jss_cons (js_asg (je_call (ok_ends_of T) hrL1 T.g_ends_of T.F_ends_of.kp T.b_ends_of tk (ja_cons (jv 0) (ja_cons (jv 4) ja_nil))) (jg_tup rfl (jgs_cons (jg_name 5 sc.nd) (jgs_cons (jg_name 6 sc.nd) jgs_nil))))
      (jss_one (js_if (jt_truth (je_call (ok_merged T) hrL1 T.g_merged T.F_merged.kp T.b_merged tk (ja_cons (jv 2) (ja_cons (jv 5) (ja_cons (jv 6) ja_nil))))) (jss_one (js_expr (je_m j_append tya_list (jv 3) (ja_cons (jv 4) ja_nil)))) jss_nil))))
      (jss_one (js_ret (je_ty j_tuple T.n_tuple boot_tuple (ja_cons (je_bi j_sortLT T.n_sorted boot_sorted (ja_cons (jv 3) ja_nil)) ja_nil)))))))
theorem ok__law_net : FnA P w K mg base 3 T.f__law_net T.d__law_net ["kettle", "many", "most"] m__law_net := by
  have sc := sc__law_net
  refine fn_def (k := 2) false T.F__law_net sc fun cdv A outer s H E hr tk hp => ?_
  have hrL1 := hr.mono (show 1 ≤ 2 by decide)
  exact (jss_cons (js_set 3 sc.nd (je_cut (je_call (ok__law_mix T) hr T.g__law_mix T.F__law_mix.kp T.b__law_mix tk (ja_cons (jv 0) (ja_cons (je_lst (ja_cons je_str (ja_cons je_str (ja_cons je_str (ja_cons je_str (ja_cons je_str (ja_cons je_str (ja_cons je_str (ja_cons je_str (ja_cons je_str (ja_cons je_str ja_nil))))))))))) ja_nil)))))
      (jss_cons (js_set 4 sc.nd (je_cut (je_call (ok__law_mix T) hr T.g__law_mix T.F__law_mix.kp T.b__law_mix tk (ja_cons (jv 0) (ja_cons (je_lstRg1 rfl T.n_list T.n_range (jv 1)) ja_nil)))))
      (jss_cons (js_set 5 sc.nd (je_lst ja_nil))
      (jss_cons (js_set 6 sc.nd (je_cmp j_eq (je_call (ok__law_pour T) hrL1 T.g__law_pour T.F__law_pour.kp T.b__law_pour tk (ja_cons (jv 0) (ja_cons je_int (ja_cons je_int ja_nil)))) je_int))
      (jss_cons (js_for hp rfl (ji_rg2 T.n_range (ja_cons je_int (ja_cons (jv 1) ja_nil))) (jg_name 7 sc.nd) (jss_one (js_expr (je_m j_append tya_list (jv 5) (ja_cons (je_tup (ja_cons (je_ix (jv 4) (jv 7)) (ja_cons (je_if (jt_truth (jv 6)) (je_ix (jv 4) (je_op j_sub (jv 7) je_int)) (je_ix (jv 4) (je_call (ok__law_pour T) hrL1 T.g__law_pour T.F__law_pour.kp T.b__law_pour tk (ja_cons (jv 0) (ja_cons (jv 7) (ja_cons je_int ja_nil)))))) ja_nil))) ja_nil)))))
      (jss_cons (js_if (jt_bool (jw_and (jt_truth (jv 6)) (jw_and1 (jt_cmp j_gt (jv 1) je_int)))) (jss_one (js_expr (je_m j_append tya_list (jv 5) (ja_cons (je_tup (ja_cons (je_ix (jv 4) je_int) (ja_cons (je_ix (jv 4) (je_neg je_int)) ja_nil))) ja_nil)))) jss_nil)
      (jss_cons (js_set 8 sc.nd (je_if (jt_cmp j_gt (jv 1) je_int) (je_call (ok__law_pour T) hrL1 T.g__law_pour T.F__law_pour.kp T.b__law_pour tk (ja_cons (jv 0) (ja_cons (je_op j_add (je_bi (j_max rfl) T.n_max boot_max (ja_cons je_int (ja_cons (je_op j_sub (jv 2) (je_bi j_len T.n_len boot_len (ja_cons (jv 5) ja_nil))) ja_nil))) je_int) (ja_cons je_int ja_nil)))) je_int))
      (jss_cons (js_for hp rfl (ji_rg1 T.n_range (ja_cons (jv 8) ja_nil)) (jg_name 9 sc.nd) (jss_one (js_if (jt_cmp j_eq (je_call (ok__law_pour T) hrL1 T.g__law_pour T.F__law_pour.kp T.b__law_pour tk (ja_cons (jv 0) (ja_cons je_int (ja_cons je_int ja_nil)))) je_int) (jss_one (js_expr (je_m j_append tya_list (jv 5) (ja_cons (je_ix (jv 5) (je_call (ok__law_pour T) hrL1 T.g__law_pour T.F__law_pour.kp T.b__law_pour tk (ja_cons (jv 0) (ja_cons (je_bi j_len T.n_len boot_len (ja_cons (jv 5) ja_nil)) (ja_cons je_int ja_nil))))) ja_nil)))) (jss_cons (js_set 10 sc.nd (je_call (ok__law_pour T) hrL1 T.g__law_pour T.F__law_pour.kp T.b__law_pour tk (ja_cons (jv 0) (ja_cons (jv 1) (ja_cons je_int ja_nil)))))
      (jss_one (js_expr (je_m j_append tya_list (jv 5) (ja_cons (je_tup (ja_cons (jv 10) (ja_cons (je_op j_mod (je_ty j_int T.n_int boot_int (ja_cons (je_op j_add (je_op j_add (jv 10) je_int) (je_call (ok__law_pour T) hrL1 T.g__law_pour T.F__law_pour.kp T.b__law_pour tk (ja_cons (jv 0) (ja_cons (je_op j_sub (jv 1) je_int) (ja_cons je_int ja_nil))))) ja_nil)) (jv 1)) ja_nil))) ja_nil))))))))
      (jss_cons (js_set 11 sc.nd (je_cut (je_call (ok__law_mix T) hr T.g__law_mix T.F__law_mix.kp T.b__law_mix tk (ja_cons (jv 0) (ja_cons (je_lst (ja_cons je_str (ja_cons je_str (ja_cons je_str (ja_cons je_str (ja_cons je_str (ja_cons je_str (ja_cons je_str (ja_cons je_str (ja_cons je_str (ja_cons je_str (ja_cons je_str (ja_cons je_str (ja_cons je_str (ja_cons je_str (ja_cons je_str (ja_cons je_str (ja_cons je_str (ja_cons je_str (ja_cons je_str (ja_cons je_str (ja_cons je_str ja_nil)))))))))))))))))))))) ja_nil)))))
      (jss_cons (js_set 5 sc.nd (je_call (ok__law_mix T) hr T.g__law_mix T.F__law_mix.kp T.b__law_mix tk (ja_cons (jv 0) (ja_cons (jv 5) ja_nil))))
      (jss_cons (js_set 12 sc.nd (je_lst ja_nil))
      (jss_cons (js_for hp rfl (ji_rg1 T.n_range (ja_cons (je_bi j_len T.n_len boot_len (ja_cons (jv 5) ja_nil)) ja_nil)) (jg_name 7 sc.nd) (jss_cons (js_asg (je_ix (jv 5) (jv 7)) (jg_tup rfl (jgs_cons (jg_name 10 sc.nd) (jgs_cons (jg_name 13 sc.nd) jgs_nil))))
      (jss_one (js_expr (je_m j_append tya_list (jv 12) (ja_cons (je_if (jt_cmp j_eq (je_call (ok__law_pour T) hrL1 T.g__law_pour T.F__law_pour.kp T.b__law_pour tk (ja_cons (jv 0) (ja_cons je_int (ja_cons je_int ja_nil)))) je_int) (je_tup (ja_cons (je_ix (jv 11) (jv 7)) (ja_cons (jv 10) (ja_cons (jv 13) ja_nil)))) (je_tup (ja_cons (je_ix (jv 11) (jv 7)) (ja_cons (jv 13) (ja_cons (jv 10) ja_nil))))) ja_nil))))))
      (jss_one (js_ret (je_tup (ja_cons (je_ty j_tuple T.n_tuple boot_tuple (ja_cons (je_sl (jv 3) jp_none (jp_some (jv 1))) ja_nil)) (ja_cons (je_ty j_tuple T.n_tuple boot_tuple (ja_cons (jv 12) ja_nil)) ja_nil)))))))))))))))))
theorem ok__law_is_state : FnA P w K mg base 3 T.f__law_is_state T.d__law_is_state ["net", "thing"] m__law_is_state := by
  have sc := sc__law_is_state
  refine fn_def (k := 2) false T.F__law_is_state sc fun cdv A outer s H E hr tk hp => ?_
  exact (jss_cons (js_if (jt_not (jt_truth (je_bi j_isi T.n_isinstance boot_isinstance (ja_cons (jv 1) (ja_cons (je_bty T.n_tuple boot_tuple) ja_nil))))) (jss_one (js_ret je_bl)) jss_nil)
      (jss_cons (js_for hp rfl (ji_rg1 T.n_range (ja_cons (je_bi j_len T.n_len boot_len (ja_cons (jv 1) ja_nil)) ja_nil)) (jg_name 2 sc.nd) (jss_cons (js_if (jt_bool (jw_or (jt_not (jt_truth (je_bi j_isi T.n_isinstance boot_isinstance (ja_cons (je_ix (jv 1) (jv 2)) (ja_cons (je_bty T.n_int boot_int) ja_nil))))) (jw_or (jt_truth (je_bi j_isi T.n_isinstance boot_isinstance (ja_cons (je_ix (jv 1) (jv 2)) (ja_cons (je_bty T.n_bool boot_bool) ja_nil)))) (jw_or1 (jt_not (jt_chain j_le j_lt je_int (je_ix (jv 1) (jv 2)) (je_bi j_len T.n_len boot_len (ja_cons (je_ix (jv 0) je_int) ja_nil)))))))) (jss_one (js_ret je_bl)) jss_nil)
      (jss_one (js_if (jt_bool (jw_and (jt_cmp j_gt (jv 2) je_int) (jw_and1 (jt_cmp j_le (je_ix (jv 1) (jv 2)) (je_ix (jv 1) (je_op j_sub (jv 2) je_int)))))) (jss_one (js_ret je_bl)) jss_nil))))
      (jss_one (js_ret (je_call (ok__law_is_tree T) hr T.g__law_is_tree T.F__law_is_tree.kp T.b__law_is_tree tk (ja_cons (jv 0) (ja_cons (jv 1) ja_nil)))))))
theorem ok_need_together : FnA P w K mg base 4 T.f_need_together T.d_need_together ["net"] m_need_together := by
  have sc := sc_need_together
  refine fn_def (k := 3) false T.F_need_together sc fun cdv A outer s H E hr tk hp => ?_
  have hrE := hr.mono (show 2 ≤ 3 by decide)
  have hrL1 := hr.mono (show 1 ≤ 3 by decide)
  exact (jss_one (js_if (jt_not (jt_truth (je_call (ok_hangs_together T) hr T.g_hangs_together T.F_hangs_together.kp T.b_hangs_together tk (ja_cons (jv 0) (ja_cons (je_call (ok_all_lines T) hrL1 T.g_all_lines T.F_all_lines.kp T.b_all_lines tk (ja_cons (jv 0) ja_nil)) ja_nil))))) (jss_one (js_raise (et_BadStep T) hrE rfl tk (ja_cons je_str ja_nil))) jss_nil))
theorem ok_is_tree : FnA P w K mg base 4 T.f_is_tree T.d_is_tree ["net", "thing"] m_is_tree := by
  have sc := sc_is_tree
  refine fn_def (k := 3) false T.F_is_tree sc fun cdv A outer s H E hr tk hp => ?_
  exact (jss_cons (js_if (jt_bool (jw_or (jt_not (jt_truth (je_call (ok_is_line_set T) hr T.g_is_line_set T.F_is_line_set.kp T.b_is_line_set tk (ja_cons (jv 0) (ja_cons (jv 1) ja_nil))))) (jw_or1 (jt_cmp j_ne (je_bi j_len T.n_len boot_len (ja_cons (jv 1) ja_nil)) (je_op j_sub (je_bi j_len T.n_len boot_len (ja_cons (je_ix (jv 0) je_int) ja_nil)) je_int))))) (jss_one (js_ret je_bl)) jss_nil)
      (jss_one (js_ret (je_call (ok_hangs_together T) hr T.g_hangs_together T.F_hangs_together.kp T.b_hangs_together tk (ja_cons (jv 0) (ja_cons (jv 1) ja_nil))))))
theorem ok_best_by : FnA P w K mg base 4 T.f_best_by T.d_best_by ["net", "worths"] m_best_by := by
  have sc := sc_best_by
  refine fn_def (k := 3) false T.F_best_by sc fun cdv A outer s H E hr tk hp => ?_
  have hrL1 := hr.mono (show 1 ≤ 3 by decide)
  exact (jss_cons (js_cut 2 (js_setLc 2 rfl sc.nd (own := [("_", 4), ("line", 3)]) (ji_seq (je_bi j_sortA T.n_sorted boot_sorted (ja_cons (je_lc rfl sc.nd (own := [("line", 3)]) (ji_seq (je_call (ok_all_lines T) hrL1 T.g_all_lines T.F_all_lines.kp T.b_all_lines tk (ja_cons (jv 0) ja_nil))) (blkOk_by (N := sN_best_by) (sc := defScope s_best_by) (by decide +kernel)) (fun _ _ _ _ _ => (jgw_name 3 sc.nd)) (fun _ _ _ _ _ => by exact jts_nil) (fun _ _ _ _ _ => by exact (je_tup (ja_cons (je_neg (je_ix (jv 1) (jv 3))) (ja_cons (jv 3) ja_nil))))) ja_nil))) (blkOk_by (N := sN_best_by) (sc := defScope s_best_by) (by decide +kernel)) (fun _ _ _ _ _ => (jgw_tup rfl (jgsw_cons (jgw_name 4 sc.nd) (jgsw_cons (jgw_name 3 sc.nd) jgsw_nil)))) (fun _ _ _ _ _ => by exact jts_nil) (fun _ _ _ _ _ => by exact (jv 3))))
      (jss_one (js_ret (je_call (ok_grown_by T) hr T.g_grown_by T.F_grown_by.kp T.b_grown_by tk (ja_cons (jv 0) (ja_cons (jv 2) ja_nil))))))
theorem ok__law_holds : FnA P w K mg base 4 T.f__law_holds T.d__law_holds ["net", "worths", "most", "thing"] m__law_holds := by
  have sc := sc__law_holds
  refine fn_def (k := 3) false T.F__law_holds sc fun cdv A outer s H E hr tk hp => ?_
  have hrL1 := hr.mono (show 1 ≤ 3 by decide)
  exact (jss_cons (js_if (jt_bool (jw_or (jt_not (jt_truth (je_bi j_isi T.n_isinstance boot_isinstance (ja_cons (jv 3) (ja_cons (je_bty T.n_tuple boot_tuple) ja_nil))))) (jw_or (jt_cmp j_ne (je_bi j_len T.n_len boot_len (ja_cons (jv 3) ja_nil)) je_int) (jw_or1 (jt_not (jt_truth (je_call (ok__law_same T) hrL1 T.g__law_same T.F__law_same.kp T.b__law_same tk (ja_cons (je_ix (jv 3) je_int) (ja_cons (jv 2) ja_nil))))))))) (jss_one (js_ret je_bl)) jss_nil)
      (jss_one (js_ret (je_and (je_call (ok__law_is_state T) hr T.g__law_is_state T.F__law_is_state.kp T.b__law_is_state tk (ja_cons (jv 0) (ja_cons (je_ix (jv 3) je_int) ja_nil))) (je_one (je_cmp j_eq (je_call (ok__law_worth T) hrL1 T.g__law_worth T.F__law_worth.kp T.b__law_worth tk (ja_cons (jv 1) (ja_cons (je_ix (jv 3) je_int) ja_nil))) (jv 2)))))))
theorem ok_best_tree : FnA P w K mg base 5 T.f_best_tree T.d_best_tree ["net", "worths"] m_best_tree := by
  have sc := sc_best_tree
  refine fn_def (k := 4) false T.F_best_tree sc fun cdv A outer s H E hr tk hp => ?_
  have hrL1 := hr.mono (show 1 ≤ 4 by decide)
  exact (jss_cons (js_expr (je_call (ok_need_together T) hr T.g_need_together T.F_need_together.kp T.b_need_together tk (ja_cons (jv 0) ja_nil)))
      (jss_cons (js_set 2 sc.nd (je_call (ok_best_by T) hr T.g_best_by T.F_best_by.kp T.b_best_by tk (ja_cons (jv 0) (ja_cons (jv 1) ja_nil))))
      (jss_one (js_ret (je_tup (ja_cons (je_call (ok_worth_of T) hrL1 T.g_worth_of T.F_worth_of.kp T.b_worth_of tk (ja_cons (jv 1) (ja_cons (jv 2) ja_nil))) (ja_cons (jv 2) ja_nil)))))))
theorem ok_is_best : FnA P w K mg base 6 T.f_is_best T.d_is_best ["net", "worths", "thing"] m_is_best := by
  have sc := sc_is_best
  refine fn_def (k := 5) false T.F_is_best sc fun cdv A outer s H E hr tk hp => ?_
  have hrL1 := hr.mono (show 1 ≤ 5 by decide)
  have hrL4 := hr.mono (show 4 ≤ 5 by decide)
  exact (jss_cons (js_set 3 sc.nd (je_ix (je_call (ok_best_tree T) hr T.g_best_tree T.F_best_tree.kp T.b_best_tree tk (ja_cons (jv 0) (ja_cons (jv 1) ja_nil))) je_int))
      (jss_cons (js_if (jt_bool (jw_or (jt_not (jt_truth (je_call (ok_tuple_of T) hrL1 T.g_tuple_of T.F_tuple_of.kp T.b_tuple_of tk (ja_cons (jv 2) (ja_cons je_int ja_nil))))) (jw_or (jt_not (jt_truth (je_call (ok_is_integer T) hrL1 T.g_is_integer T.F_is_integer.kp T.b_is_integer tk (ja_cons (je_ix (jv 2) je_int) ja_nil)))) (jw_or1 (jt_not (jt_truth (je_call (ok_is_tree T) hrL4 T.g_is_tree T.F_is_tree.kp T.b_is_tree tk (ja_cons (jv 0) (ja_cons (je_ix (jv 2) je_int) ja_nil))))))))) (jss_one (js_ret je_bl)) jss_nil)
      (jss_one (js_ret (je_and (je_cmp j_eq (je_ix (jv 2) je_int) (jv 3)) (je_one (je_cmp j_eq (je_call (ok_worth_of T) hrL1 T.g_worth_of T.F_worth_of.kp T.b_worth_of tk (ja_cons (jv 1) (ja_cons (je_ix (jv 2) je_int) ja_nil))) (jv 3))))))))
theorem ok__law_small : FnA P w K mg base 7 T.f__law_small T.d__law_small ["kettle", "net"] m__law_small := by
  have sc := sc__law_small
  refine fn_def (k := 6) false T.F__law_small sc fun cdv A outer s H E hr tk hp => ?_
  have hrL1 := hr.mono (show 1 ≤ 6 by decide)
  have hrL2 := hr.mono (show 2 ≤ 6 by decide)
  have hrL4 := hr.mono (show 4 ≤ 6 by decide)
  have hrL5 := hr.mono (show 5 ≤ 6 by decide)
  exact (jss_cons (js_set 2 sc.nd (je_call (ok__law_worths T) hrL2 T.g__law_worths T.F__law_worths.kp T.b__law_worths tk (ja_cons (jv 0) (ja_cons (jv 1) ja_nil))))
      (jss_cons (js_set 3 sc.nd (je_call (ok__law_trees T) hrL1 T.g__law_trees T.F__law_trees.kp T.b__law_trees tk (ja_cons (jv 1) ja_nil)))
      (jss_cons (js_set 4 sc.nd (je_cut (je_bi (j_max rfl) T.n_max boot_max (ja_cons (je_lc rfl sc.nd (own := [("tree", 7)]) (ji_seq (jv 3)) (blkOk_by (N := sN__law_small) (sc := defScope s__law_small) (by decide +kernel)) (fun _ _ _ _ _ => (jgw_name 7 sc.nd)) (fun _ _ _ _ _ => by exact jts_nil) (fun _ _ _ _ _ => by exact (by exact (je_call (ok__law_worth T) hrL1 T.g__law_worth T.F__law_worth.kp T.b__law_worth takes0 (ja_cons (jv 2) (ja_cons (jv 7) ja_nil)))))) ja_nil))))
      (jss_cons (js_set 5 sc.nd (je_if (jt_cmp j_eq (je_call (ok__law_pour T) hrL1 T.g__law_pour T.F__law_pour.kp T.b__law_pour tk (ja_cons (jv 0) (ja_cons je_int (ja_cons je_int ja_nil)))) je_int) (je_call (ok_best_tree T) hrL5 T.g_best_tree T.F_best_tree.kp T.b_best_tree tk (ja_cons (jv 1) (ja_cons (jv 2) ja_nil))) (je_callK0 (ok_best_tree T) hrL5 T.g_best_tree T.F_best_tree.kp (kb_best_tree_0_worths_net T) tk (jk_cons (jv 2) (jk_cons (jv 1) jk_nil)))))
      (jss_cons (js_if (jt_not (jt_truth (je_call (ok__law_holds T) hrL4 T.g__law_holds T.F__law_holds.kp T.b__law_holds tk (ja_cons (jv 1) (ja_cons (jv 2) (ja_cons (jv 4) (ja_cons (jv 5) ja_nil))))))) (jss_one (js_ret je_bl)) jss_nil)
      (jss_cons (js_cut 6 (js_setLc 6 rfl sc.nd (own := [("tree", 7)]) (ji_seq (jv 3)) (blkOk_by (N := sN__law_small) (sc := defScope s__law_small) (by decide +kernel)) (fun _ _ _ _ _ => (jgw_name 7 sc.nd)) (fun _ _ _ _ _ => by exact (jts_one (jt_cmp j_eq (by exact (je_call (ok__law_worth T) hrL1 T.g__law_worth T.F__law_worth.kp T.b__law_worth takes0 (ja_cons (jv 2) (ja_cons (jv 7) ja_nil)))) (jv 4)))) (fun _ _ _ _ _ => by exact (jv 7))))
      (jss_cons (js_par 7 8 rfl sc.nd (ja_cons (je_ix (jv 6) (je_call (ok__law_pour T) hrL1 T.g__law_pour T.F__law_pour.kp T.b__law_pour tk (ja_cons (jv 0) (ja_cons (je_bi j_len T.n_len boot_len (ja_cons (jv 6) ja_nil)) (ja_cons je_int ja_nil))))) (ja_cons (je_ix (jv 3) (je_call (ok__law_pour T) hrL1 T.g__law_pour T.F__law_pour.kp T.b__law_pour tk (ja_cons (jv 0) (ja_cons (je_bi j_len T.n_len boot_len (ja_cons (jv 3) ja_nil)) (ja_cons je_int ja_nil))))) ja_nil)))
      (jss_cons (js_for hp rfl (ji_seq (je_tup (ja_cons (je_tup (ja_cons (jv 4) (ja_cons (jv 7) ja_nil))) (ja_cons (je_tup (ja_cons (je_call (ok__law_worth T) hrL1 T.g__law_worth T.F__law_worth.kp T.b__law_worth tk (ja_cons (jv 2) (ja_cons (jv 8) ja_nil))) (ja_cons (jv 8) ja_nil))) (ja_cons (je_tup (ja_cons (jv 4) (ja_cons (jv 8) ja_nil))) ja_nil))))) (jg_name 9 sc.nd) (jss_one (js_if (jt_not (jt_truth (je_call (ok__law_same T) hrL1 T.g__law_same T.F__law_same.kp T.b__law_same tk (ja_cons (je_call (ok_is_best T) hr T.g_is_best T.F_is_best.kp T.b_is_best tk (ja_cons (jv 1) (ja_cons (jv 2) (ja_cons (jv 9) ja_nil)))) (ja_cons (je_call (ok__law_holds T) hrL4 T.g__law_holds T.F__law_holds.kp T.b__law_holds tk (ja_cons (jv 1) (ja_cons (jv 2) (ja_cons (jv 4) (ja_cons (jv 9) ja_nil))))) ja_nil))))) (jss_one (js_ret je_bl)) jss_nil)))
      (jss_cons (js_for hp rfl (ji_rg1 T.n_range (ja_cons je_int ja_nil)) (jg_name 10 sc.nd) (jss_cons (js_set 9 sc.nd (je_call (ok__law_bent T) hrL2 T.g__law_bent T.F__law_bent.kp T.b__law_bent tk (ja_cons (jv 0) (ja_cons (jv 1) (ja_cons (je_tup (ja_cons (jv 4) (ja_cons (jv 7) ja_nil))) ja_nil)))))
      (jss_one (js_if (jt_not (jt_truth (je_call (ok__law_same T) hrL1 T.g__law_same T.F__law_same.kp T.b__law_same tk (ja_cons (je_callK0 (ok_is_best T) hr T.g_is_best T.F_is_best.kp (kb_is_best_0_thing_worths_net T) tk (jk_cons (jv 9) (jk_cons (jv 2) (jk_cons (jv 1) jk_nil)))) (ja_cons (je_call (ok__law_holds T) hrL4 T.g__law_holds T.F__law_holds.kp T.b__law_holds tk (ja_cons (jv 1) (ja_cons (jv 2) (ja_cons (jv 4) (ja_cons (jv 9) ja_nil))))) ja_nil))))) (jss_one (js_ret je_bl)) jss_nil))))
      (jss_one (js_ret (je_call (ok__law_same T) hrL1 T.g__law_same T.F__law_same.kp T.b__law_same tk (ja_cons (je_tup (ja_cons (je_call (ok_worth_of T) hrL1 T.g_worth_of T.F_worth_of.kp T.b_worth_of tk (ja_cons (jv 2) (ja_cons (jv 8) ja_nil))) (ja_cons (je_callK0 (ok_worth_of T) hrL1 T.g_worth_of T.F_worth_of.kp (kb_worth_of_0_tree_worths T) tk (jk_cons (jv 7) (jk_cons (jv 2) jk_nil))) ja_nil))) (ja_cons (je_tup (ja_cons (je_call (ok__law_worth T) hrL1 T.g__law_worth T.F__law_worth.kp T.b__law_worth tk (ja_cons (jv 2) (ja_cons (jv 8) ja_nil))) (ja_cons (jv 4) ja_nil))) ja_nil))))))))))))))
theorem ok__law_wide : FnA P w K mg base 7 T.f__law_wide T.d__law_wide ["kettle", "net"] m__law_wide := by
  have sc := sc__law_wide
  refine fn_def (k := 6) false T.F__law_wide sc fun cdv A outer s H E hr tk hp => ?_
  have hrL1 := hr.mono (show 1 ≤ 6 by decide)
  have hrL2 := hr.mono (show 2 ≤ 6 by decide)
  have hrL4 := hr.mono (show 4 ≤ 6 by decide)
  have hrL5 := hr.mono (show 5 ≤ 6 by decide)
  exact (jss_cons (js_set 2 sc.nd (je_call (ok__law_worths T) hrL2 T.g__law_worths T.F__law_worths.kp T.b__law_worths tk (ja_cons (jv 0) (ja_cons (jv 1) ja_nil))))
      (jss_cons (js_set 3 sc.nd (je_call (ok__law_greedy T) hrL2 T.g__law_greedy T.F__law_greedy.kp T.b__law_greedy tk (ja_cons (jv 1) (ja_cons (jv 2) ja_nil))))
      (jss_cons (js_set 4 sc.nd (je_call (ok__law_worth T) hrL1 T.g__law_worth T.F__law_worth.kp T.b__law_worth tk (ja_cons (jv 2) (ja_cons (jv 3) ja_nil))))
      (jss_cons (js_if (jt_bool (jw_or (jt_not (jt_truth (je_call (ok__law_holds T) hrL4 T.g__law_holds T.F__law_holds.kp T.b__law_holds tk (ja_cons (jv 1) (ja_cons (jv 2) (ja_cons (jv 4) (ja_cons (je_call (ok_best_tree T) hrL5 T.g_best_tree T.F_best_tree.kp T.b_best_tree tk (ja_cons (jv 1) (ja_cons (jv 2) ja_nil))) ja_nil))))))) (jw_or1 (jt_cmp j_notB (je_call (ok_is_best T) hr T.g_is_best T.F_is_best.kp T.b_is_best tk (ja_cons (jv 1) (ja_cons (jv 2) (ja_cons (je_tup (ja_cons (jv 4) (ja_cons (jv 3) ja_nil))) ja_nil)))) je_bl)))) (jss_one (js_ret je_bl)) jss_nil)
      (jss_cons (js_set 5 sc.nd (je_call (ok__law_bent T) hrL2 T.g__law_bent T.F__law_bent.kp T.b__law_bent tk (ja_cons (jv 0) (ja_cons (jv 1) (ja_cons (je_tup (ja_cons (jv 4) (ja_cons (jv 3) ja_nil))) ja_nil)))))
      (jss_one (js_ret (je_call (ok__law_same T) hrL1 T.g__law_same T.F__law_same.kp T.b__law_same tk (ja_cons (je_call (ok_is_best T) hr T.g_is_best T.F_is_best.kp T.b_is_best tk (ja_cons (jv 1) (ja_cons (jv 2) (ja_cons (jv 5) ja_nil)))) (ja_cons (je_call (ok__law_holds T) hrL4 T.g__law_holds T.F__law_holds.kp T.b__law_holds tk (ja_cons (jv 1) (ja_cons (jv 2) (ja_cons (jv 4) (ja_cons (jv 5) ja_nil))))) ja_nil))))))))))
theorem ok__law_apart : FnA P w K mg base 7 T.f__law_apart T.d__law_apart ["kettle", "which"] m__law_apart := by
  have sc := sc__law_apart
  refine fn_def (k := 6) false T.F__law_apart sc fun cdv A outer s H E hr tk hp => ?_
  have hrL1 := hr.mono (show 1 ≤ 6 by decide)
  have hrL5 := hr.mono (show 5 ≤ 6 by decide)
  exact (jss_cons (js_set 2 sc.nd (je_cut (je_tup (ja_cons (je_tup (ja_cons je_str (ja_cons je_str (ja_cons je_str ja_nil)))) (ja_cons (je_sl (je_tup (ja_cons (je_tup (ja_cons je_str (ja_cons je_int (ja_cons je_int ja_nil)))) (ja_cons (je_tup (ja_cons je_str (ja_cons je_int (ja_cons je_int ja_nil)))) ja_nil))) jp_none (jp_some (je_call (ok__law_pour T) hrL1 T.g__law_pour T.F__law_pour.kp T.b__law_pour tk (ja_cons (jv 0) (ja_cons je_int (ja_cons je_int ja_nil)))))) ja_nil)))))
      (jss_cons (js_if (jt_cmp j_eq (je_call (ok__law_pour T) hrL1 T.g__law_pour T.F__law_pour.kp T.b__law_pour tk (ja_cons (jv 0) (ja_cons je_int (ja_cons je_int ja_nil)))) je_int) (jss_one (js_set 2 sc.nd (je_tup (ja_cons (je_tup (ja_cons je_str (ja_cons je_str (ja_cons je_str (ja_cons je_str ja_nil))))) (ja_cons (je_tup (ja_cons (je_tup (ja_cons je_str (ja_cons je_int (ja_cons je_int ja_nil)))) (ja_cons (je_tup (ja_cons je_str (ja_cons je_int (ja_cons je_int ja_nil)))) ja_nil))) ja_nil))))) jss_nil)
      (jss_cons (js_try rfl rfl sc.nd rfl rfl ⟨rfl, by decide, .inl T.eg_NetError⟩ tk (fun W pn xe tk hp => (jss_one (js_if (jt_cmp j_eq (jv 1) je_int) (jss_one (js_expr (je_call (ok_best_tree T) hrL5 T.g_best_tree T.F_best_tree.kp T.b_best_tree tk (ja_cons (jv 2) (ja_cons (je_op j_mul (je_tup (ja_cons je_int ja_nil)) (je_bi j_len T.n_len boot_len (ja_cons (je_ix (jv 2) je_int) ja_nil))) ja_nil))))) (jss_one (js_expr (je_call (ok_is_best T) hr T.g_is_best T.F_is_best.kp T.b_is_best tk (ja_cons (jv 2) (ja_cons (je_op j_mul (je_tup (ja_cons je_int ja_nil)) (je_bi j_len T.n_len boot_len (ja_cons (je_ix (jv 2) je_int) ja_nil))) (ja_cons (je_tup (ja_cons je_int (ja_cons (je_tup ja_nil) ja_nil))) ja_nil))))))))) (all1 (p := fun c => PySem.W.exmOne K (.ref c) (.ref Errs.NetError) = some true) T.xm_BadStep_NetError) (fun Y hi hc y => (jx_if (jxt_is ((all1 (p := fun c => ExcC K c) T.xe_BadStep) _ hc) y ((tbC (p := fun c b => PySem.W.kitOne K (.ref c) (.ref Errs.BadStep) = some b) T.kt_BadStep_BadStep tbN) Y.c) T.n_isinstance T.eg_BadStep) (jx_fld ((all1 (p := fun c => XfC K c) T.xf_BadStep) _ hc) ((all1 (p := fun c => PySem.W.findIn K (.ref c) "word" = some none) T.fn_BadStep_word) _ hc) y) (jx_of je_str))))
      (jss_one (js_ret je_str)))))
theorem ok_law : FnA P w K mg base 8 T.f_law T.d_law ["script"] m_law := by
  have sc := sc_law
  refine fn_def (k := 7) false T.F_law sc fun cdv A outer s H E hr tk hp => ?_
  have hrL1 := hr.mono (show 1 ≤ 7 by decide)
  have hrL3 := hr.mono (show 3 ≤ 7 by decide)
  have hrL4 := hr.mono (show 4 ≤ 7 by decide)
  have hrL5 := hr.mono (show 5 ≤ 7 by decide)
  have hrL6 := hr.mono (show 6 ≤ 7 by decide)
  exact (jss_cons (js_set 1 sc.nd (je_call (ok__law_kettle T) hrL1 T.g__law_kettle T.F__law_kettle.kp T.b__law_kettle tk (ja_cons (jv 0) ja_nil)))
      (jss_cons (js_if (jt_not (jt_truth (je_call (ok__law_same T) hrL1 T.g__law_same T.F__law_same.kp T.b__law_same tk (ja_cons (je_call (ok__law_apart T) hr T.g__law_apart T.F__law_apart.kp T.b__law_apart tk (ja_cons (jv 1) (ja_cons (je_call (ok__law_pour T) hrL1 T.g__law_pour T.F__law_pour.kp T.b__law_pour tk (ja_cons (jv 1) (ja_cons je_int (ja_cons je_int ja_nil)))) ja_nil))) (ja_cons je_str ja_nil))))) (jss_one (js_ret je_bl)) jss_nil)
      (jss_cons (js_for hp rfl (ji_rg1 T.n_range (ja_cons je_int ja_nil)) (jg_name 2 sc.nd) (jss_one (js_if (jt_not (jt_truth (je_call (ok__law_small T) hr T.g__law_small T.F__law_small.kp T.b__law_small tk (ja_cons (jv 1) (ja_cons (je_call (ok__law_net T) hrL3 T.g__law_net T.F__law_net.kp T.b__law_net tk (ja_cons (jv 1) (ja_cons (je_op j_add je_int (je_call (ok__law_pour T) hrL1 T.g__law_pour T.F__law_pour.kp T.b__law_pour tk (ja_cons (jv 1) (ja_cons je_int (ja_cons je_int ja_nil))))) (ja_cons je_int ja_nil)))) ja_nil))))) (jss_one (js_ret je_bl)) jss_nil)))
      (jss_cons (js_set 3 sc.nd (je_tup (ja_cons (je_tup (ja_cons je_str (ja_cons je_str (ja_cons je_str (ja_cons je_str ja_nil))))) (ja_cons (je_tup (ja_cons (je_tup (ja_cons je_str (ja_cons je_int (ja_cons je_int ja_nil)))) (ja_cons (je_tup (ja_cons je_str (ja_cons je_int (ja_cons je_int ja_nil)))) (ja_cons (je_tup (ja_cons je_str (ja_cons je_int (ja_cons je_int ja_nil)))) (ja_cons (je_tup (ja_cons je_str (ja_cons je_int (ja_cons je_int ja_nil)))) (ja_cons (je_tup (ja_cons je_str (ja_cons je_int (ja_cons je_int ja_nil)))) ja_nil)))))) ja_nil))))
      (jss_cons (js_if (jt_bool (jw_or (jt_not (jt_truth (je_call (ok__law_same T) hrL1 T.g__law_same T.F__law_same.kp T.b__law_same tk (ja_cons (je_call (ok_best_tree T) hrL5 T.g_best_tree T.F_best_tree.kp T.b_best_tree tk (ja_cons (jv 3) (ja_cons (je_tup (ja_cons je_int (ja_cons je_int (ja_cons je_int (ja_cons je_int (ja_cons je_int ja_nil)))))) ja_nil))) (ja_cons (je_tup (ja_cons je_int (ja_cons (je_tup (ja_cons je_int (ja_cons je_int (ja_cons je_int ja_nil)))) ja_nil))) ja_nil))))) (jw_or1 (jt_cmp j_notB (je_call (ok_is_best T) hrL6 T.g_is_best T.F_is_best.kp T.b_is_best tk (ja_cons (jv 3) (ja_cons (je_tup (ja_cons je_int (ja_cons je_int (ja_cons je_int (ja_cons je_int (ja_cons je_int ja_nil)))))) (ja_cons (je_tup (ja_cons je_int (ja_cons (je_tup (ja_cons je_int (ja_cons je_int (ja_cons je_int ja_nil)))) ja_nil))) ja_nil)))) je_bl)))) (jss_one (js_ret je_bl)) jss_nil)
      (jss_cons (js_set 4 sc.nd (je_op j_sub (je_neg je_int) (je_call (ok__law_pour T) hrL1 T.g__law_pour T.F__law_pour.kp T.b__law_pour tk (ja_cons (jv 1) (ja_cons je_int (ja_cons je_int ja_nil))))))
      (jss_cons (js_set 5 sc.nd (je_tup (ja_cons (je_call (ok_is_best T) hrL6 T.g_is_best T.F_is_best.kp T.b_is_best tk (ja_cons (jv 3) (ja_cons (je_op j_mul (je_tup (ja_cons (jv 4) ja_nil)) je_int) (ja_cons (je_tup (ja_cons (je_op j_mul je_int (jv 4)) (ja_cons (je_tup (ja_cons je_int (ja_cons je_int (ja_cons je_int ja_nil)))) ja_nil))) ja_nil)))) (ja_cons (je_call (ok_is_best T) hrL6 T.g_is_best T.F_is_best.kp T.b_is_best tk (ja_cons (jv 3) (ja_cons (je_op j_mul (je_tup (ja_cons (jv 4) ja_nil)) je_int) (ja_cons (je_tup (ja_cons (je_op j_mul je_int (jv 4)) (ja_cons (je_tup (ja_cons je_int (ja_cons je_int (ja_cons je_int ja_nil)))) ja_nil))) ja_nil)))) ja_nil))))
      (jss_cons (js_set 5 sc.nd (je_op j_add (jv 5) (je_tup (ja_cons (je_call (ok_is_best T) hrL6 T.g_is_best T.F_is_best.kp T.b_is_best tk (ja_cons (jv 3) (ja_cons (je_op j_mul (je_tup (ja_cons (jv 4) ja_nil)) je_int) (ja_cons (je_tup (ja_cons (je_op j_mul je_int (jv 4)) (ja_cons (je_tup (ja_cons je_int (ja_cons je_int ja_nil))) ja_nil))) ja_nil)))) (ja_cons (je_call (ok_is_best T) hrL6 T.g_is_best T.F_is_best.kp T.b_is_best tk (ja_cons (jv 3) (ja_cons (je_op j_mul (je_tup (ja_cons (jv 4) ja_nil)) je_int) (ja_cons (je_tup (ja_cons je_int (ja_cons (je_tup ja_nil) ja_nil))) ja_nil)))) ja_nil)))))
      (jss_cons (js_if (jt_bool (jw_or (jt_not (jt_truth (je_call (ok__law_same T) hrL1 T.g__law_same T.F__law_same.kp T.b__law_same tk (ja_cons (jv 5) (ja_cons (je_tup (ja_cons je_bl (ja_cons je_bl (ja_cons je_bl (ja_cons je_bl ja_nil))))) ja_nil))))) (jw_or1 (jt_not (jt_truth (je_call (ok__law_holds T) hrL4 T.g__law_holds T.F__law_holds.kp T.b__law_holds tk (ja_cons (jv 3) (ja_cons (je_op j_mul (je_tup (ja_cons (jv 4) ja_nil)) je_int) (ja_cons (je_op j_mul je_int (jv 4)) (ja_cons (je_call (ok_best_tree T) hrL5 T.g_best_tree T.F_best_tree.kp T.b_best_tree tk (ja_cons (jv 3) (ja_cons (je_op j_mul (je_tup (ja_cons (jv 4) ja_nil)) je_int) ja_nil))) ja_nil)))))))))) (jss_one (js_ret je_bl)) jss_nil)
      (jss_cons (js_if (jt_not (jt_truth (je_call (ok__law_same T) hrL1 T.g__law_same T.F__law_same.kp T.b__law_same tk (ja_cons (je_tup (ja_cons (je_call (ok_best_tree T) hrL5 T.g_best_tree T.F_best_tree.kp T.b_best_tree tk (ja_cons (je_tup (ja_cons (je_tup (ja_cons je_str ja_nil)) (ja_cons (je_tup ja_nil) ja_nil))) (ja_cons (je_tup ja_nil) ja_nil))) (ja_cons (je_call (ok_is_best T) hrL6 T.g_is_best T.F_is_best.kp T.b_is_best tk (ja_cons (je_tup (ja_cons (je_tup (ja_cons je_str ja_nil)) (ja_cons (je_tup ja_nil) ja_nil))) (ja_cons (je_tup ja_nil) (ja_cons (je_tup (ja_cons je_int (ja_cons (je_tup ja_nil) ja_nil))) ja_nil)))) (ja_cons (je_call (ok_is_best T) hrL6 T.g_is_best T.F_is_best.kp T.b_is_best tk (ja_cons (je_tup (ja_cons (je_tup (ja_cons je_str ja_nil)) (ja_cons (je_tup ja_nil) ja_nil))) (ja_cons (je_tup ja_nil) (ja_cons (je_tup (ja_cons je_bl (ja_cons (je_tup ja_nil) ja_nil))) ja_nil)))) ja_nil)))) (ja_cons (je_tup (ja_cons (je_tup (ja_cons je_int (ja_cons (je_tup ja_nil) ja_nil))) (ja_cons je_bl (ja_cons je_bl ja_nil)))) ja_nil))))) (jss_one (js_ret je_bl)) jss_nil)
      (jss_one (js_ret (je_or (je_cmp j_ne (je_call (ok__law_pour T) hrL1 T.g__law_pour T.F__law_pour.kp T.b__law_pour tk (ja_cons (jv 1) (ja_cons je_int (ja_cons je_int ja_nil)))) je_int) (je_one (je_call (ok__law_wide T) hr T.g__law_wide T.F__law_wide.kp T.b__law_wide tk (ja_cons (jv 1) (ja_cons (je_call (ok__law_net T) hrL3 T.g__law_net T.F__law_net.kp T.b__law_net tk (ja_cons (jv 1) (ja_cons je_int (ja_cons je_int ja_nil)))) ja_nil)))))))))))))))))
end
end G12

namespace G12
open PySem PySem.Spec
open PyProof.Rows hiding St
open L2 AB MG
def LeanOk (ls : List Int) : Prop := ls.length = 8 ∧ ∀ x ∈ ls, 0 ≤ x ∧ x ≤ 3
def tk : TK where
  K := 4
  ok := fun t => ∃ (gs ls : List Int) (M : AO) (m l : Int), t = [.lst (gs.map .int), M, .lst (ls.map .int), .lst [.loc 0, .int m, .loc 2, .int l]] ∧ M.low 4 = true ∧ gs.length ≤ 64 ∧ LeanOk ls
  len := fun t ⟨_, _, _, _, _, e, _⟩ => by rw [e]; rfl
  low := fun t ⟨gs, ls, M, m, l, e, lo, _⟩ o ho => by
    subst e
    rcases List.mem_cons.mp ho with rfl | ho
    · exact low_ints _ _
    · rcases List.mem_cons.mp ho with rfl | ho
      · exact lo
      · rcases List.mem_cons.mp ho with rfl | ho
        · exact low_ints _ _
        · rw [List.mem_singleton] at ho; subst ho; rfl
abbrev Tp := TpG tk
abbrev Mv := MvG tk
abbrev TL : Nat := 3
theorem finC_mv {h h1 g : AH} {v v' : PV} (_t : Tp h) (m : Mv h h1) (hv : frz h.length (h1 ++ g) v = some v') : finC h.length h (h1 ++ g) v = .ok v' h1 := finC_mvG m hv
theorem finC_mv0 {h h1 : AH} {v : PV} (_t : Tp h) (m : Mv h h1) (hv : v.low h.length = true) : finC h.length h h1 v = .ok v h1 := finC_mvG0 m hv
abbrev Rst : Type := {x : AO × List Int × Int × AH // x.1.low 4 = true ∧ LeanOk x.2.1}
def hT (gs : List Int) (m : Int) (h0 : Rst) : AH := .lst (gs.map .int) :: h0.1.1 :: .lst (h0.1.2.1.map .int) :: .lst [.loc 0, .int m, .loc 2, .int h0.1.2.2.1] :: h0.1.2.2.2
theorem shape {h : AH} (t : Tp h) : ∃ gs m h0, h = hT gs m h0 ∧ gs.length ≤ 64 := by
  obtain ⟨gs, ls, M, m, l, e, lo, lg, lk⟩ := t
  refine ⟨gs, m, ⟨(M, ls, l, h.drop 4), lo, lk⟩, ?_, lg⟩
  calc h = h.take 4 ++ h.drop 4 := (List.take_append_drop 4 h).symm
    _ = _ := by rw [show h.take 4 = _ from e]; rfl
theorem mvT {gs gs' : List Int} {m m' : Int} {h0 : Rst} (hl : gs'.length ≤ 64) : Mv (hT gs m h0) (hT gs' m' h0) := ⟨by simp [tk, hT], _, ⟨gs', h0.1.2.1, h0.1.1, m', h0.1.2.2.1, rfl, h0.2.1, hl, h0.2.2⟩, rfl⟩
noncomputable abbrev bdP : AS := (sIf (aB (aOp fGt (aOp fIx (aOp fIx (aVar 0) (aC (.int 0))) (aVar 3)) (aC (.int 0)))) (sSeq (sSet 4 (aOp fMod (aFn fnInt (aCons (aOp fIx (aOp fIx (aVar 0) (aC (.int 0))) (aVar 3)) (aNil))) (aVar 1))) (sSeq (sAsg (aOp fFdiv (aOp fIx (aOp fIx (aVar 0) (aC (.int 0))) (aVar 3)) (aVar 1)) (gSubL (aOp fIx (aVar 0) (aC (.int 0))) (aVar 3))) (sRet (aVar 4)))) (sNext))
theorem pour {h : AH} (t : Tp h) {k : Int} {sp : Nat} (hk : 0 < k) (kz : k < 1073741824) (hs : sp ≤ 8) : ∃ r h', m__law_pour [.loc 3, .int k, .int sp] h = .ok (.int r) h' ∧ 0 ≤ r ∧ r < k ∧ Mv h h' := by
  have t' := t
  obtain ⟨gs, m, h0, rfl, lg⟩ := shape t'
  obtain ⟨⟨M, ls, l, H⟩, lo, lk⟩ := h0
  let h0 : Rst := ⟨(M, ls, l, H), lo, lk⟩
  unfold m__law_pour b__law_pour
  let S : Option PV → Option PV → Option PV → ASt := fun o3 o4 o5 => [some (.loc 3), some (.int k), some (.int sp), o3, o4, o5]
  have i0 : ∀ gs m, fIx (.loc 3) (.int 0) (hT gs m h0) = .ok (.loc 0) (hT gs m h0) := fun _ _ => fIx_loc rfl rfl
  have i1 : ∀ gs m, fIx (.loc 3) (.int 1) (hT gs m h0) = .ok (.int m) (hT gs m h0) := fun _ _ => fIx_loc rfl rfl
  have i2 : ∀ gs m, fIx (.loc 3) (.int 2) (hT gs m h0) = .ok (.loc 2) (hT gs m h0) := fun _ _ => fIx_loc rfl rfl
  have i3 : ∀ gs m, fIx (.loc 3) (.int 3) (hT gs m h0) = .ok (.int l) (hT gs m h0) := fun _ _ => fIx_loc rfl rfl
  have ln : ∀ gs m, fnLen [.loc 0] (hT gs m h0) = .ok (.int gs.length) (hT gs m h0) := fun gs _ => by rw [fnLen_seq (seqOf_loc rfl)]; simp
  have ig : ∀ (gs : List Int) (m : Int) (i : Nat) (hi : i < gs.length), fIx (.loc 0) (.int i) (hT gs m h0) = .ok (.int gs[i]) (hT gs m h0) := fun gs m i hi => fIx_loc (xs := gs.map .int) rfl (atI_nat (by rw [List.getElem?_map, List.getElem?_eq_getElem hi]; rfl))
  have loop := forA_rule (a := itRg 0 gs.length) (g := gN 3) (b := bdP) ((List.range gs.length).map nI) (fun i σ G => (∃ o3, σ = S o3 none none) ∧ G = hT gs m h0)
    (fun r => (∃ o3, r = .fin .nx (S o3 none none) (hT gs m h0)) ∨ ∃ (x : Int) (σ : ASt) (gs' : List Int), gs'.length ≤ 64 ∧ r = .fin (.rt (.int (x % k))) σ (hT gs' m h0))
    (by simp [itRg]) (fun i σ G hi _ => itRg_nxt _ _ _)
    (fun i x σ G ex ⟨⟨o3, e1⟩, e2⟩ => by
      subst e1; subst e2
      rw [List.getElem?_map] at ex
      obtain ⟨j, ej, rfl⟩ := Option.map_eq_some_iff.mp ex
      have hi : i < gs.length := by have := (List.getElem?_eq_some_iff.mp ej).1; simpa using this
      rw [List.getElem?_range hi] at ej
      cases ej
      have e0 : ∀ (σ : ASt) gs m, aVar 0 σ (hT gs m h0) = .ok (.loc 3) (hT gs m h0) → (aOp fIx (aVar 0) (aC (.int 0))) σ (hT gs m h0) = .ok (.loc 0) (hT gs m h0) := fun σ gs m e => aOp_ok e rfl (i0 _ _)
      have ec : (aB (aOp fGt (aOp fIx (aOp fIx (aVar 0) (aC (.int 0))) (aVar 3)) (aC (.int 0)))) (S (some (nI i)) none none) (hT gs m h0) = .ok (decide ((0 : Int) < gs[i])) (hT gs m h0) :=
        aB_ok (aOp_ok (aOp_ok (e0 _ _ _ rfl) rfl (ig gs m i hi)) rfl (fGt_i _ _ _))
      refine ⟨_, _, rfl, ?_⟩
      by_cases c : (0 : Int) < gs[i]
      · rw [decide_eq_true c] at ec
        let v : Int := gs[i] % k
        let gs' : List Int := gs.set i (gs[i] / k)
        have lg' : gs'.length = gs.length := by simp [gs']
        refine .inr (.inr ⟨.int v, S (some (nI i)) (some (.int v)) none, hT gs' m h0, ?_, .inr ⟨gs[i], _, gs', by omega, rfl⟩⟩)
        refine (sIf_t ec).trans ?_
        refine sSeq_ok (σ1 := S (some (nI i)) (some (.int v)) none) (h1 := hT gs m h0) (sSet_ok (aOp_ok (aFn_ok (aCons_ok (aOp_ok (e0 _ _ _ rfl) rfl (ig gs m i hi)) rfl) (fnInt_i _ _)) rfl (fMod_i hk _))) ?_
        refine sSeq_ok (σ1 := S (some (nI i)) (some (.int v)) none) (h1 := hT gs' m h0) (sAsg_ok (aOp_ok (aOp_ok (e0 _ _ _ rfl) rfl (ig gs m i hi)) rfl (fFdiv_i hk kz _)) ?_) ?_
        · refine (gSubL_ok (n := 0) (k := i) (xs := gs.map .int) (e0 _ _ _ rfl) rfl rfl (by omega) (by simp; exact hi)).trans ?_
          simp [hT, gs', List.map_set]
        · exact sRet_ok rfl
      · rw [decide_eq_false c] at ec
        exact .inl ⟨_, _, .inl ((sIf_f ec).trans rfl), ⟨_, rfl⟩, rfl⟩)
    (fun σ G ⟨⟨o3, e1⟩, e2⟩ => .inl ⟨o3, by rw [e1, e2]⟩) (σ := S none none none) (h := hT gs m h0) ⟨⟨none, rfl⟩, rfl⟩
  have ea : (aItR1 (aCons (aFn fnLen (aCons (aOp fIx (aVar 0) (aC (.int 0))) (aNil))) (aNil))) (S none none none) (hT gs m h0) = .ok (itRg 0 gs.length) (hT gs m h0) :=
    aItR1_ok (j := gs.length) (aCons_ok (l := aNil) (aFn_ok (aCons_ok (l := aNil) (aOp_ok rfl rfl (i0 _ _)) rfl) (ln _ _)) rfl) (by omega) (by omega)
  rcases loop with ⟨o3, eL⟩ | ⟨x, σ, gs', lg', eL⟩
  · let m' : Int := (m * 69621 + 2203) % 2147483549
    have mu : fMul (.int m) (.int 69621) (hT gs m h0) = .ok (.int (m * 69621)) (hT gs m h0) := fMul_i (by omega) (by omega) _
    have d1 : (sAsg (aOp fMod (aFn fnInt (aCons (aOp fAdd (aOp fMul (aOp fIx (aVar 0) (aC (.int 1))) (aC (.int 69621))) (aC (.int 2203))) (aNil))) (aC (.int 2147483549))) (gSubL (aVar 0) (aC (.int 1)))) (S o3 none none) (hT gs m h0) = .fin .nx (S o3 none none) (hT gs m' h0) :=
      sAsg_ok (aOp_ok (aFn_ok (aCons_ok (aOp_ok (aOp_ok (aOp_ok rfl rfl (i1 _ _)) rfl mu) rfl (fAdd_i _ _ _)) rfl) (fnInt_i _ _)) rfl (fMod_i (by omega) _)) (gSubL_ok (n := 3) (k := 1) (xs := [.loc 0, .int m, .loc 2, .int l]) rfl rfl rfl (by omega) (by simp))
    obtain ⟨w, w0, w3, d2⟩ : ∃ w : Int, 0 ≤ w ∧ w ≤ 3 ∧ (sSet 5 (aIf (aB (aOp fLt (aVar 2) (aC (.int 8)))) (aOp fIx (aOp fIx (aVar 0) (aC (.int 2))) (aVar 2)) (aC (.int 3)))) (S o3 none none) (hT gs m' h0) = .fin .nx (S o3 none (some (.int w))) (hT gs m' h0) := by
      have ec : (aB (aOp fLt (aVar 2) (aC (.int 8)))) (S o3 none none) (hT gs m' h0) = .ok (decide ((sp : Int) < 8)) (hT gs m' h0) := aB_ok (aOp_ok rfl rfl (fLt_i _ _ _))
      by_cases c : (sp : Int) < 8
      · rw [decide_eq_true c] at ec
        have hl : sp < ls.length := by have : ls.length = 8 := lk.1; omega
        have : 0 ≤ ls[sp] ∧ ls[sp] ≤ 3 := lk.2 ls[sp] (List.getElem_mem hl)
        exact ⟨ls[sp], this.1, this.2, sSet_ok ((aIf_t ec).trans (aOp_ok (aOp_ok rfl rfl (i2 _ _)) rfl (fIx_loc (xs := ls.map .int) rfl (atI_nat (by rw [List.getElem?_map, List.getElem?_eq_getElem hl]; rfl)))))⟩
      · rw [decide_eq_false c] at ec
        exact ⟨3, by omega, by omega, sSet_ok ((aIf_f ec).trans rfl)⟩
    let T := S o3 none (some (.int w))
    have c3 : (aB (aOp fEq (aVar 5) (aC (.int 3)))) T (hT gs m' h0) = .ok (decide (w = 3)) (hT gs m' h0) := aB_ok (aOp_ok rfl rfl (fEq_i _ _ _))
    have fin : ∀ (r : Int), 0 ≤ r → r < k → sSeq (sIf (aB (aOp fEq (aVar 5) (aC (.int 3)))) (sRet (aOp fMod (aFn fnInt (aCons (aOp fFdiv (aOp fIx (aVar 0) (aC (.int 1))) (aC (.int 59))) (aNil))) (aVar 1))) (sNext)) (sRet (aIf (aB (aOp fEq (aVar 5) (aC (.int 2)))) (aOp fMod (aFn fnInt (aCons (aOp fFdiv (aOp fIx (aVar 0) (aC (.int 3))) (aC (.int 101))) (aNil))) (aVar 1)) (aOp fMul (aVar 5) (aOp fSub (aVar 1) (aC (.int 1)))))) T (hT gs m' h0) = .fin (.rt (.int r)) T (hT gs m' h0) → ∃ r h', mDef false 6 b__law_pour [.loc 3, .int k, .int sp] (hT gs m h0) = .ok (.int r) h' ∧ 0 ≤ r ∧ r < k ∧ Mv (hT gs m h0) h' := fun r r0 r1 e =>
      ⟨r, hT gs m' h0, (mDef_rt (σ := T) (h1 := hT gs m' h0) (v := .int r) (by
        unfold b__law_pour
        exact sSeq_ok (sFor_ok ea eL) (sSeq_ok d1 (sSeq_ok d2 e)))).trans (finC_mv0 t (mvT lg) rfl), r0, r1, mvT lg⟩
    by_cases w1 : w = 3
    · rw [decide_eq_true w1] at c3
      exact fin (m' / 59 % k) (Int.emod_nonneg _ (by omega)) (Int.emod_lt_of_pos _ hk) (sSeq_rt ((sIf_t c3).trans (sRet_ok (aOp_ok (aFn_ok (aCons_ok (aOp_ok (aOp_ok rfl rfl (i1 _ _)) rfl (fFdiv_i (by omega) (by omega) _)) rfl) (fnInt_i _ _)) rfl (fMod_i hk _)))))
    · rw [decide_eq_false w1] at c3
      have c2 : (aB (aOp fEq (aVar 5) (aC (.int 2)))) T (hT gs m' h0) = .ok (decide (w = 2)) (hT gs m' h0) := aB_ok (aOp_ok rfl rfl (fEq_i _ _ _))
      by_cases w2 : w = 2
      · rw [decide_eq_true w2] at c2
        exact fin (l / 101 % k) (Int.emod_nonneg _ (by omega)) (Int.emod_lt_of_pos _ hk) (sSeq_ok (σ1 := T) (h1 := hT gs m' h0) ((sIf_f c3).trans rfl) (sRet_ok ((aIf_t c2).trans (aOp_ok (aFn_ok (aCons_ok (aOp_ok (aOp_ok rfl rfl (i3 _ _)) rfl (fFdiv_i (by omega) (by omega) _)) rfl) (fnInt_i _ _)) rfl (fMod_i hk _)))))
      · rw [decide_eq_false w2] at c2
        have : w = 0 ∨ w = 1 := by omega
        exact fin (w * (k - 1)) (by rcases this with rfl | rfl <;> omega) (by rcases this with rfl | rfl <;> omega) (sSeq_ok (σ1 := T) (h1 := hT gs m' h0) ((sIf_f c3).trans rfl) (sRet_ok ((aIf_f c2).trans (aOp_ok rfl (aOp_ok rfl rfl (fSub_i _ _ _)) (fMul_i (by omega) (by omega) _)))))
  · refine ⟨x % k, hT gs' m h0, (mDef_rt (σ := σ) (h1 := hT gs' m h0) (v := .int (x % k)) ?_).trans (finC_mv0 t (mvT lg') rfl), Int.emod_nonneg _ (by omega), Int.emod_lt_of_pos _ hk, mvT lg'⟩
    exact sSeq_rt (sFor_ok ea eL)
end G12

/-! MW: growing a tree by labels; searching ways -/
namespace MG
section
variable {e : Nat → Nat × Nat}
structure LI (e : Nat → Nat × Nat) (n : Nat) (done tr hs : List Nat) : Prop where
  len : hs.length = n
  lt : ∀ k ∈ done, (e k).1 < n ∧ (e k).2 < n
  one : ∀ k ∈ done, hs.getD (e k).1 0 = hs.getD (e k).2 0
  two : ∀ a b, a < n → b < n → hs.getD a 0 = hs.getD b 0 → Jn e tr a b
  sub : ∀ k ∈ tr, k ∈ done
  fst : Fst e tr
  nd : tr.Nodup
theorem LI.start (n : Nat) : LI e n [] [] (List.range n) := ⟨by simp, by simp, by simp, fun a b ha hb h => by
    have e1 : (List.range n).getD a 0 = a := by simp [ha]
    have e2 : (List.range n).getD b 0 = b := by simp [hb]
    rw [e1, e2] at h
    subst h; exact .rf _, by simp, Fst.nil, by simp⟩
theorem LI.eq {n : Nat} {done tr hs : List Nat} (i : LI e n done tr hs) {a b : Nat} (j : Jn e tr a b) : hs.getD a 0 = hs.getD b 0 :=
  Cn.agree (fun p => hs.getD p 0) (fun p hp => by
    obtain ⟨k, hk, rfl⟩ := List.mem_map.mp hp
    exact i.one k (i.sub k hk)) j
theorem LI.skip {n : Nat} {done tr hs : List Nat} (i : LI e n done tr hs) {k : Nat} (la : (e k).1 < n) (lb : (e k).2 < n) (h : hs.getD (e k).1 0 = hs.getD (e k).2 0) : LI e n (done ++ [k]) tr hs :=
  ⟨i.len, fun j hj => by
    rcases List.mem_append.mp hj with hj | hj
    · exact i.lt j hj
    · rw [List.mem_singleton] at hj; subst hj; exact ⟨la, lb⟩, fun j hj => by
    rcases List.mem_append.mp hj with hj | hj
    · exact i.one j hj
    · rw [List.mem_singleton] at hj; subst hj; exact h, i.two, fun j hj => List.mem_append_left _ (i.sub j hj), i.fst, i.nd⟩
theorem LI.join {n : Nat} {done tr hs : List Nat} (i : LI e n done tr hs) {k : Nat} (la : (e k).1 < n) (lb : (e k).2 < n) (ne : hs.getD (e k).1 0 ≠ hs.getD (e k).2 0) {m : Nat} (hm : m = hs.getD (e k).1 0 ∨ m = hs.getD (e k).2 0) {f : Nat → Nat}
    (hf : ∀ s, f s = if s = hs.getD (e k).1 0 ∨ s = hs.getD (e k).2 0 then m else s) : LI e n (done ++ [k]) (tr ++ [k]) (hs.map f) := by
  have nj : ¬ Jn e tr (e k).1 (e k).2 := fun c => ne (i.eq c)
  have g : ∀ p, p < n → (hs.map f).getD p 0 = f (hs.getD p 0) := fun p hp => by
    have : p < hs.length := by rw [i.len]; exact hp
    simp [List.getD_eq_getElem?_getD, this]
  have up : ∀ {x y}, Jn e tr x y → Jn e (tr ++ [k]) x y := fun x => x.mono fun j hj => List.mem_append_left _ hj
  have kk : Jn e (tr ++ [k]) (e k).1 (e k).2 := Jn.line (by simp)
  refine ⟨by simp [i.len], fun j hj => by
    rcases List.mem_append.mp hj with hj | hj
    · exact i.lt j hj
    · rw [List.mem_singleton] at hj; subst hj; exact ⟨la, lb⟩, fun j hj => ?_, fun a b ha hb h => ?_, fun j hj => ?_, i.fst.add nj, ?_⟩
  · by_cases cj : j ∈ done
    · rw [g _ (i.lt j cj).1, g _ (i.lt j cj).2, i.one j cj]
    · have : j = k := by
        rcases List.mem_append.mp hj with hj | hj
        · exact absurd hj cj
        · exact List.mem_singleton.mp hj
      subst this
      rw [g _ la, g _ lb, hf, hf, if_pos (.inl rfl), if_pos (.inr rfl)]
  · rw [g a ha, g b hb, hf, hf] at h
    have toA : ∀ p, p < n → (hs.getD p 0 = hs.getD (e k).1 0 ∨ hs.getD p 0 = hs.getD (e k).2 0) → Jn e (tr ++ [k]) p (e k).1 := fun p hp c => by
      rcases c with c | c
      · exact up (i.two p _ hp la c)
      · exact (up (i.two p _ hp lb c)).tr kk.sm
    split at h
    · rename_i c1
      split at h
      · rename_i c2; exact (toA a ha c1).tr (toA b hb c2).sm
      · rename_i c2
        refine absurd ?_ c2
        rw [← h]; exact hm
    · rename_i c1
      split at h
      · refine absurd ?_ c1
        rw [h]; exact hm
      · exact up (i.two a b ha hb h)
  · rcases List.mem_append.mp hj with hj | hj
    · exact List.mem_append_left _ (i.sub j hj)
    · exact List.mem_append_right _ hj
  · rw [List.nodup_append]
    refine ⟨i.nd, by simp, fun a ha b hb c => ?_⟩
    rw [List.mem_singleton] at hb
    subst hb; subst c
    exact nj (Jn.line ha)
theorem LI.all {n : Nat} {done tr hs : List Nat} (i : LI e n done tr hs) {E : List (Nat × Nat)} (c : ∀ x ∈ E, ∃ k ∈ done, e k = x) {a b : Nat} (ha : a < n) (hb : b < n) (j : Cn E a b) : Jn e tr a b :=
  i.two a b ha hb (Cn.agree (fun p => hs.getD p 0) (fun x hx => by
    obtain ⟨k, hk, rfl⟩ := c x hx
    exact i.one k hk) j)
structure Srch (e : Nat → Nat × Nat) (ks : List Nat) (a : Nat) (found : List Nat) (W : Nat → List Nat) : Prop where
  st : a ∈ found
  wa : W a = []
  nd : found.Nodup
  way : ∀ p ∈ found, Way e ks a (W p) p ∧ (W p).Nodup ∧ ∀ k ∈ W p, (e k).1 ∈ found ∧ (e k).2 ∈ found
theorem Srch.start (ks : List Nat) (a : Nat) : Srch e ks a [a] (fun _ => []) := ⟨by simp, rfl, by simp, fun p hp => by
  rw [List.mem_singleton] at hp; subst hp
  exact ⟨.nl _, by simp, by simp⟩⟩
def putW (W : Nat → List Nat) (far : Nat) (p : List Nat) : Nat → List Nat := fun q => if q = far then p else W q
theorem Srch.step {ks : List Nat} {a : Nat} {found : List Nat} {W : Nat → List Nat} (s : Srch e ks a found W) {here far k : Nat} (hh : here ∈ found) (hk : k ∈ ks) (j : e k = (here, far) ∨ e k = (far, here)) (hf : far ∉ found) :
    Srch e ks a (found ++ [far]) (putW W far (W here ++ [k])) := by
  have ne : ∀ p ∈ found, p ≠ far := fun p hp c => hf (c ▸ hp)
  refine ⟨List.mem_append_left _ s.st, ?_, ?_, fun p hp => ?_⟩
  · unfold putW; rw [if_neg (ne a s.st)]; exact s.wa
  · rw [List.nodup_append]
    refine ⟨s.nd, by simp, fun x hx y hy => ?_⟩
    rw [List.mem_singleton] at hy; subst hy
    exact ne x hx
  · rcases List.mem_append.mp hp with hp | hp
    · obtain ⟨w1, w2, w3⟩ := s.way p hp
      unfold putW
      rw [if_neg (ne p hp)]
      exact ⟨w1, w2, fun k hk => ⟨List.mem_append_left _ (w3 k hk).1, List.mem_append_left _ (w3 k hk).2⟩⟩
    · rw [List.mem_singleton] at hp; subst hp
      obtain ⟨w1, w2, w3⟩ := s.way here hh
      unfold putW
      rw [if_pos rfl]
      refine ⟨w1.sn hk j, ?_, fun i hi => ?_⟩
      · rw [List.nodup_append]
        refine ⟨w2, by simp, fun x hx y hy c => ?_⟩
        rw [List.mem_singleton] at hy; subst hy; subst c
        have := w3 x hx
        rcases j with j | j
        · rw [j] at this; exact hf this.2
        · rw [j] at this; exact hf this.1
      · rcases List.mem_append.mp hi with hi | hi
        · exact ⟨List.mem_append_left _ (w3 i hi).1, List.mem_append_left _ (w3 i hi).2⟩
        · rw [List.mem_singleton] at hi; subst hi
          rcases j with j | j <;> rw [j] <;> simp [hh]
/-- all next places of p are found -/
def Cl (e : Nat → Nat × Nat) (ks found : List Nat) (p : Nat) : Prop := ∀ k ∈ ks, ((e k).1 = p → (e k).2 ∈ found) ∧ ((e k).2 = p → (e k).1 ∈ found)
theorem Cl.mono {ks f g : List Nat} {p : Nat} (c : Cl e ks f p) (s : ∀ q ∈ f, q ∈ g) : Cl e ks g p := fun k hk => ⟨fun h => s _ ((c k hk).1 h), fun h => s _ ((c k hk).2 h)⟩
theorem Srch.all {ks : List Nat} {a : Nat} {found : List Nat} {W : Nat → List Nat} (s : Srch e ks a found W) (cl : ∀ p ∈ found, Cl e ks found p) {b : Nat} (j : Jn e ks a b) : b ∈ found := by
  unfold Jn at j
  induction j with
  | rf => exact s.st
  | fw _ m ih =>
    obtain ⟨k, hk, h⟩ := List.mem_map.mp m
    have := (cl _ ih k hk).1 (by rw [h])
    rwa [h] at this
  | bw _ m ih =>
    obtain ⟨k, hk, h⟩ := List.mem_map.mp m
    have := (cl _ ih k hk).2 (by rw [h])
    rwa [h] at this
theorem len_lt {n : Nat} {t : List Nat} (nd : t.Nodup) (lt : ∀ p ∈ t, p < n) : t.length ≤ n := by
  have := nd.length_le_of_subset (l₂ := List.range n) (fun p hp => by simpa using lt p hp)
  simpa using this
end
end MG

namespace AB
/-! distinct numbers -/
theorem dedI_run : ∀ (ns s : List Int), s.Nodup → let r := ns.foldl (fun s k => if s.any (· == k) then s else s ++ [k]) s; r.Nodup ∧ ∀ x, x ∈ r ↔ x ∈ s ∨ x ∈ ns
  | [], s, h => ⟨h, fun x => by simp⟩
  | n :: ns, s, h => by
    have q := dedI_run ns (if s.any (· == n) then s else s ++ [n]) (by
      split
      · exact h
      · rename_i c
        rw [List.nodup_append]
        refine ⟨h, by simp, fun x hx y hy e => c ?_⟩
        rw [List.mem_singleton] at hy; subst hy; subst e
        exact List.any_eq_true.mpr ⟨x, hx, by simp⟩)
    refine ⟨q.1, fun x => (q.2 x).trans ?_⟩
    split
    · rename_i c
      obtain ⟨y, hy, e⟩ := List.any_eq_true.mp c
      have : y = n := by simpa using e
      subst this
      constructor
      · rintro (a | a)
        · exact .inl a
        · exact .inr (List.mem_cons_of_mem _ a)
      · rintro (a | a)
        · exact .inl a
        · rcases List.mem_cons.mp a with a | a
          · subst a; exact .inl hy
          · exact .inr a
    · rw [List.mem_append, List.mem_singleton, List.mem_cons, or_assoc]
theorem dedI_len {ns : List Int} {vs : List Nat} (nd : vs.Nodup) (h : ∀ x : Int, x ∈ ns ↔ ∃ v ∈ vs, x = (v : Int)) : (dedI ns).length = vs.length := by
  have q := dedI_run ns [] (by simp)
  have e : dedI ns = ns.foldl (fun s k => if s.any (· == k) then s else s ++ [k]) [] := rfl
  rw [← e] at q
  have p : (dedI ns).Perm (vs.map fun v : Nat => (v : Int)) := by
    refine (List.perm_ext_iff_of_nodup q.1 ?_).mpr fun x => ?_
    · rw [List.nodup_iff_pairwise_ne, List.pairwise_map]
      exact (List.nodup_iff_pairwise_ne.mp nd).imp fun h e => h (by omega)
    · rw [q.2, h]
      simp only [List.not_mem_nil, false_or, List.mem_map]
      constructor
      · rintro ⟨v, hv, e⟩; exact ⟨v, hv, e.symm⟩
      · rintro ⟨v, hv, e⟩; exact ⟨v, hv, e.symm⟩
  rw [p.length_eq, List.length_map]
end AB
namespace MG
theorem filter_ne_len {vs : List Nat} (nd : vs.Nodup) {x : Nat} (hx : x ∈ vs) : (vs.filter fun v => !decide (v = x)).length + 1 = vs.length := by
  induction vs with
  | nil => cases hx
  | cons v vs ih =>
    obtain ⟨h1, h2⟩ := List.nodup_cons.mp nd
    by_cases c : v = x
    · subst c
      rw [List.filter_cons_of_neg (by simp), List.filter_eq_self.mpr fun y hy => by
        have : y ≠ v := fun e => h1 (e ▸ hy)
        simp [this]]
      rfl
    · rw [List.filter_cons_of_pos (by simp [c]), List.length_cons, List.length_cons]
      rcases List.mem_cons.mp hx with e | hx
      · exact absurd e.symm c
      · rw [ih h2 hx]
/-- labels, their number, the least at place 0 -/
structure LJ (e : Nat → Nat × Nat) (n : Nat) (done tr hs : List Nat) : Prop where
  li : LI e n done tr hs
  z : hs.getD 0 0 = 0
  ct : ∃ vs : List Nat, vs.Nodup ∧ (∀ x, x ∈ vs ↔ x ∈ hs) ∧ vs.length + tr.length = n
theorem LJ.start {e : Nat → Nat × Nat} (n : Nat) : LJ e n [] [] (List.range n) := ⟨LI.start n, by
  by_cases c : 0 < n
  · simp [c]
  · have : n = 0 := by omega
    subst this; rfl, List.range n, List.nodup_range, fun x => Iff.rfl, by simp⟩
theorem LJ.step {e : Nat → Nat × Nat} {n : Nat} {done tr hs : List Nat} (i : LJ e n done tr hs) {k : Nat} (la : (e k).1 < n) (lb : (e k).2 < n) {low high : Nat}
    (hl : low = min (hs.getD (e k).1 0) (hs.getD (e k).2 0)) (hh : high = max (hs.getD (e k).1 0) (hs.getD (e k).2 0)) : ∃ tr', LJ e n (done ++ [k]) tr' (hs.map fun s => if s = high then low else s) := by
  have gm : ∀ p, p < n → hs.getD p 0 ∈ hs := fun p hp => by
    have : p < hs.length := by rw [i.li.len]; exact hp
    simp [List.getD_eq_getElem?_getD, this]
  have z' : (hs.map fun s => if s = high then low else s).getD 0 0 = 0 := by
    by_cases c : 0 < n
    · have : 0 < hs.length := by rw [i.li.len]; exact c
      have e1 : (hs.map fun s => if s = high then low else s).getD 0 0 = if hs.getD 0 0 = high then low else hs.getD 0 0 := by simp [List.getD_eq_getElem?_getD, this]
      rw [e1, i.z]
      split <;> omega
    · have : hs = [] := List.eq_nil_of_length_eq_zero (by rw [i.li.len]; omega)
      subst this; rfl
  by_cases c : hs.getD (e k).1 0 = hs.getD (e k).2 0
  · have e1 : (hs.map fun s => if s = high then low else s) = hs := by
      conv => rhs; rw [← List.map_id hs]
      refine List.map_congr_left fun s _ => ?_
      show (if s = high then low else s) = s
      split <;> omega
    rw [e1] at z' ⊢
    exact ⟨tr, i.li.skip la lb c, z', i.ct⟩
  · have hf : ∀ s, (if s = high then low else s) = if s = hs.getD (e k).1 0 ∨ s = hs.getD (e k).2 0 then low else s := fun s => by
      split <;> split <;> omega
    refine ⟨tr ++ [k], i.li.join (m := low) la lb c (by omega) hf, z', ?_⟩
    obtain ⟨vs, nd, mem, ct⟩ := i.ct
    have hin : high ∈ vs := (mem _).mpr (by
      rcases (show high = hs.getD (e k).1 0 ∨ high = hs.getD (e k).2 0 by omega) with h | h
      · rw [h]; exact gm _ la
      · rw [h]; exact gm _ lb)
    have lin : low ∈ hs := by
      rcases (show low = hs.getD (e k).1 0 ∨ low = hs.getD (e k).2 0 by omega) with h | h
      · rw [h]; exact gm _ la
      · rw [h]; exact gm _ lb
    have lh : low ≠ high := by omega
    refine ⟨vs.filter fun v => !decide (v = high), nd.filter _, fun x => ?_, ?_⟩
    · rw [List.mem_filter, mem, List.mem_map]
      constructor
      · rintro ⟨h1, h2⟩
        have : x ≠ high := by simpa using h2
        exact ⟨x, h1, by rw [if_neg this]⟩
      · rintro ⟨s, hs', rfl⟩
        split
        · exact ⟨lin, by simp [lh]⟩
        · rename_i q; exact ⟨hs', by simp [q]⟩
    · have := filter_ne_len nd hin
      rw [List.length_append, List.length_singleton]; omega
theorem LJ.step1 {e : Nat → Nat × Nat} {n : Nat} {done tr hs : List Nat} (i : LJ e n done tr hs) (fd : Fst e done) : ∀ j ∈ done, j ∈ tr := fun j hj => by
  by_cases c : j ∈ tr
  · exact c
  · have h := i.li.two _ _ (i.li.lt j hj).1 (i.li.lt j hj).2 (i.li.one j hj)
    exact absurd (h.mono fun x hx => mem_wo.mpr ⟨i.li.sub x hx, fun e => by subst e; exact c hx⟩) (fd j hj)
/-- the count tells whether there is a ring -/
theorem LJ.forest {e : Nat → Nat × Nat} {n : Nat} {done tr hs : List Nat} (i : LJ e n done tr hs) (nd : done.Nodup) : tr.length = done.length ↔ Fst e done := by
  constructor
  · intro h
    refine i.li.fst.perm ?_
    refine (List.perm_ext_iff_of_nodup nd i.li.nd).mpr fun x => ⟨fun hx => ?_, i.li.sub x⟩
    by_cases c : x ∈ tr
    · exact c
    · have : (x :: tr).length ≤ done.length := (List.nodup_cons.mpr ⟨c, i.li.nd⟩).length_le_of_subset fun y hy => by
        rcases List.mem_cons.mp hy with rfl | hy
        · exact hx
        · exact i.li.sub y hy
      simp at this; omega
  · intro f
    have h1 : tr.length ≤ done.length := i.li.nd.length_le_of_subset i.li.sub
    have h2 : done.length ≤ tr.length := nd.length_le_of_subset (i.step1 f)
    omega
end MG

namespace AB
open PySem PySem.Spec
open PyProof.Rows hiding St
open L2
section
variable {σ σ1 : ASt} {h h1 h2 : AH} {c : Addr} {fs : List (Str × PV)}
theorem sSeq_exc {a b : AS} (e : a σ h = .exc c fs σ1 h1) : sSeq a b σ h = .exc c fs σ1 h1 := by rw [sSeq_eq, e]
theorem sExpr_exc {m : AE} (e : m σ h = .exc c fs h1) : sExpr m σ h = .exc c fs σ h1 := by unfold sExpr; rw [e]; rfl
theorem sSet_exc {m : AE} {i : Nat} (e : m σ h = .exc c fs h1) : sSet i m σ h = .exc c fs σ h1 := by unfold sSet; rw [e]; rfl
theorem sRet_exc {m : AE} (e : m σ h = .exc c fs h1) : sRet m σ h = .exc c fs σ h1 := by unfold sRet; rw [e]; rfl
theorem mDef_exc {n : Nat} {b : AS} {xs : List PV} (e : b (startA n xs) h = .exc c fs σ h1) : mDef false n b xs h = .exc c fs h1 := by unfold mDef endF; rw [e]
theorem aCut_exc {m : AE} (e : m σ h = .exc c fs h1) : aCut m σ h = .exc c fs h1 := by unfold aCut; rw [e]
theorem aCons_exc {a : AE} {l : AL} (e : a σ h = .exc c fs h1) : aCons a l σ h = .exc c fs h1 := by unfold aCons; rw [e]; rfl
theorem aCons_exc2 {a : AE} {l : AL} {x : PV} (e : a σ h = .ok x h1) (e2 : l σ h1 = .exc c fs h2) : aCons a l σ h = .exc c fs h2 := by unfold aCons; rw [e, Res.bind_ok, e2]; rfl
theorem aTup_exc {l : AL} (e : l σ h = .exc c fs h1) : aTup l σ h = .exc c fs h1 := by unfold aTup; rw [e]; rfl
theorem sRaise_ok {C : Addr} {names : List Str} {l : AL} {xs : List PV} (e : l σ h = .ok xs h1) (hl : xs.length = names.length) : sRaise C names l σ h = .exc C (names.zip xs).reverse σ h1 := by
  unfold sRaise; rw [e, liftS_ok]; exact if_pos hl
theorem sTry_fin {i : Nat} {hits : List Addr} {mb : AS} {mE : Addr → List (Str × PV) → AE} {f : Fl} (e : mb σ h = .fin f σ1 h1) : sTry i hits mb mE σ h = .fin f σ1 h1 := by unfold sTry; rw [e]
theorem sTry_exc {i : Nat} {hits : List Addr} {mb : AS} {mE : Addr → List (Str × PV) → AE} {v : PV} (e : mb σ h = .exc c fs σ1 h1) (hc : c ∈ hits) (hi : i < σ1.length) (ev : mE c fs (σ1.set i none) h1 = .ok v h2) : sTry i hits mb mE σ h = .fin (.rt v) (σ1.set i none) h2 := by
  unfold sTry; rw [e]; dsimp only; rw [if_pos ⟨hc, hi⟩, ev]
end
theorem tCut_ext {m : AT} {σ : ASt} {h g : AH} {b : Bool} (e : m σ h = .ok b (h ++ g)) : tCut m σ h = .ok b h := by
  unfold tCut; rw [e]; dsimp only
  rw [if_pos (cutB_of fun n hn => .inl (List.getElem?_append_left hn)), List.take_left]
theorem tXi_hit {c : Addr} {b : Bool} {tb : List (Addr × Bool)} {σ : ASt} {h : AH} : tXi c ((c, b) :: tb) σ h = .ok b h := by
  unfold tXi; simp [List.lookup]
theorem aXf_hit {fs : List (Str × PV)} {f : Str} {x : PV} {σ : ASt} {h : AH} (e : fs.lookup f = some x) : aXf fs f σ h = .ok x h := by
  unfold aXf; rw [e]
theorem fAdd_ll {n : Nat} {xs ys : List PV} {h : AH} (e : h[n]? = some (.lst xs)) (hz : xs.length + ys.length ≤ 1000000) : fAdd (.loc n) (.lst ys) h = .ok (.loc h.length) (h ++ [.lst (xs ++ ys)]) := by
  show (match lstOf (.loc n) h, lstOf (.lst ys) h with | some xs, some ys => _ | _, _ => _) = _
  rw [lstOf_loc e, lstOf_lst]
  exact if_pos (size_ok hz)
theorem fAdd_lo {n m : Nat} {xs ys : List PV} {h : AH} (e : h[n]? = some (.lst xs)) (e2 : h[m]? = some (.lst ys)) (hz : xs.length + ys.length ≤ 1000000) : fAdd (.loc n) (.loc m) h = .ok (.loc h.length) (h ++ [.lst (xs ++ ys)]) := by
  show (match lstOf (.loc n) h, lstOf (.loc m) h with | some xs, some ys => _ | _, _ => _) = _
  rw [lstOf_loc e, lstOf_loc e2]
  exact if_pos (size_ok hz)
theorem mem_castN' {i : Nat} {ks : List Nat} : ((i : Int) ∈ ks.map fun n : Nat => (n : Int)) ↔ i ∈ ks := by
  constructor
  · intro h
    obtain ⟨j, hj, e⟩ := List.mem_map.mp h
    have : j = i := by omega
    exact this ▸ hj
  · intro h; exact List.mem_map.mpr ⟨i, h, rfl⟩
theorem fIn_nn {i : Nat} {ks : List Nat} {u : PV} {h : AH} (e : seqOf u h = some (ks.map nI)) : fIn (.int i) u h = .ok (.bl (decide (i ∈ ks))) h := by
  rw [fIn_i (by rw [e, nI_map]), decide_eq_decide.mpr mem_castN']
theorem fNin_nn {i : Nat} {ks : List Nat} {u : PV} {h : AH} (e : seqOf u h = some (ks.map nI)) : fNin (.int i) u h = .ok (.bl (!decide (i ∈ ks))) h := by
  rw [fNin_i (by rw [e, nI_map]), decide_eq_decide.mpr mem_castN']
theorem max0 (ns : List Nat) : ((ns.map fun n : Nat => (n : Int)).foldl max 0 = 0) ↔ ∀ x ∈ ns, x = 0 := by
  obtain ⟨h1, h2, h3⟩ := foldl_max_le (ns.map fun n : Nat => (n : Int)) 0
  constructor
  · intro e x hx
    have := h2 (x : Int) (List.mem_map.mpr ⟨x, hx, rfl⟩)
    omega
  · intro a
    rcases h3 with h3 | h3
    · exact h3
    · obtain ⟨x, hx, e⟩ := List.mem_map.mp h3
      rw [← e, a x hx]; rfl
theorem nodup_one {α : Type} {vs : List α} (nd : vs.Nodup) {v : α} (h : ∀ x ∈ vs, x = v) : vs.length ≤ 1 := by
  cases vs with
  | nil => simp
  | cons a r =>
    cases r with
    | nil => simp
    | cons b r =>
      have e1 := h a (by simp)
      have e2 := h b (by simp)
      exact absurd (show a ∈ b :: r by rw [e1, ← e2]; simp) (List.nodup_cons.mp nd).1
theorem ded_one {ns : List Int} (ne : ns ≠ []) : (dedI ns).length = 1 ↔ ∀ y ∈ ns, ∀ z ∈ ns, y = z := by
  have q := dedI_run ns [] (by simp)
  have e : dedI ns = ns.foldl (fun s k => if s.any (· == k) then s else s ++ [k]) [] := rfl
  rw [← e] at q
  have mem : ∀ x, x ∈ dedI ns ↔ x ∈ ns := fun x => by rw [q.2]; simp
  constructor
  · intro h y hy z hz
    obtain ⟨x, ex⟩ := List.length_eq_one_iff.mp h
    have h1 := (mem y).mpr hy
    have h2 := (mem z).mpr hz
    rw [ex, List.mem_singleton] at h1 h2
    rw [h1, h2]
  · intro h
    obtain ⟨x, hx⟩ := List.exists_mem_of_ne_nil _ ne
    have h1 := nodup_one q.1 (v := x) fun y hy => h y ((mem y).mp hy) x hx
    have h2 := List.length_pos_of_mem ((mem x).mpr hx)
    omega
end AB
namespace MG
open AB
variable {e : Nat → Nat × Nat} {n : Nat}
theorem LI.step1 {done tr hs : List Nat} (i : LI e n done tr hs) (fd : Fst e done) : ∀ j ∈ done, j ∈ tr := fun j hj => by
  by_cases c : j ∈ tr
  · exact c
  · have h := i.two _ _ (i.lt j hj).1 (i.lt j hj).2 (i.one j hj)
    exact absurd (h.mono fun x hx => mem_wo.mpr ⟨i.sub x hx, fun e => by subst e; exact c hx⟩) (fd j hj)
theorem LI.agr {done tr hs : List Nat} (i : LI e n done tr hs) {a b : Nat} (j : Jn e done a b) : hs.getD a 0 = hs.getD b 0 :=
  Cn.agree (fun p => hs.getD p 0) (fun p hp => by
    obtain ⟨k, hk, rfl⟩ := List.mem_map.mp hp
    exact i.one k hk) j
theorem LI.span {done tr hs : List Nat} (i : LI e n done tr hs) {a b : Nat} (ha : a < n) (hb : b < n) : Jn e tr a b ↔ Jn e done a b :=
  ⟨fun j => j.mono i.sub, fun j => i.two a b ha hb (i.agr j)⟩
theorem LJ.runs : ∀ (js : List Nat) {done tr hs : List Nat}, LJ e n done tr hs → (∀ k ∈ js, (e k).1 < n ∧ (e k).2 < n) → ∃ tr' hs', LJ e n (done ++ js) tr' hs'
  | [], _, tr, hs, l, _ => ⟨tr, hs, by rw [List.append_nil]; exact l⟩
  | k :: js, _, _, _, l, hj => by
    obtain ⟨tr', l'⟩ := l.step (hj k (by simp)).1 (hj k (by simp)).2 rfl rfl
    obtain ⟨t2, h2, l2⟩ := LJ.runs js l' fun k hk => hj k (by simp [hk])
    exact ⟨t2, h2, by rw [List.append_assoc] at l2; exact l2⟩
theorem LJ.run (js : List Nat) (hj : ∀ k ∈ js, (e k).1 < n ∧ (e k).2 < n) : ∃ tr hs, LJ e n js tr hs := LJ.runs js (LJ.start n) hj
/-- as many lines as places but one: exactly if they hang all together -/
theorem fst_len (pos : 0 < n) {T : List Nat} (hT : ∀ k ∈ T, (e k).1 < n ∧ (e k).2 < n) (f : Fst e T) (nd : T.Nodup) : T.length + 1 ≤ n ∧ (T.length + 1 = n ↔ ∀ p, p < n → Jn e T 0 p) := by
  obtain ⟨tr, hs, l⟩ := LJ.run T hT
  have lt := (l.forest nd).mpr f
  obtain ⟨vs, nv, mem, ct⟩ := l.ct
  have hl := l.li.len
  have m0 : ∀ p, p < n → hs.getD p 0 ∈ vs := fun p hp => (mem _).mpr (by
    have : p < hs.length := by omega
    simp [List.getD_eq_getElem?_getD, this])
  have v1 := List.length_pos_of_mem (m0 0 pos)
  refine ⟨by omega, ?_, ?_⟩
  · intro h p hp
    obtain ⟨v, ev⟩ := List.length_eq_one_iff.mp (show vs.length = 1 by omega)
    have a := m0 0 pos
    have b := m0 p hp
    rw [ev, List.mem_singleton] at a b
    exact (l.li.two 0 p pos hp (by rw [a, b])).mono l.li.sub
  · intro h
    have := nodup_one nv (v := hs.getD 0 0) fun x hx => by
      obtain ⟨i, hi, ei⟩ := List.getElem_of_mem ((mem x).mp hx)
      have q := l.li.agr (h i (by omega))
      rw [q, List.getD_eq_getElem?_getD, List.getElem?_eq_getElem hi, ei]; rfl
    omega
end MG

namespace AB
open PySem PySem.Spec
open PyProof.Rows hiding St
open L2
/-! comprehensions with two fors; loops that look for something; zip; sorted pairs -/
theorem lcI_map {β : Type} {a : AI} {vs : List Nat} {g : AG} {e : AE} {σ : ASt} {h : AH} (ys : List β) (enc : β → PV) (f : β → PV) (hx : ∀ i acc, a.nxt i (h ++ [AO.lst acc]) = some (ys.map enc)[i]?)
    (step : ∀ y ∈ ys, ∃ σ2, ∀ acc, g (enc y) (wipeA σ vs) (h ++ [AO.lst acc]) = some (σ2, h ++ [AO.lst acc]) ∧ e σ2 (h ++ [AO.lst acc]) = .ok (f y) (h ++ [AO.lst acc])) :
    ∀ (k n j : Nat) (acc : List PV), k = ys.length - j → j ≤ ys.length → ys.length ≤ n + j → acc.length + ys.length < 1000000 + j → lcI a vs g tYes' e σ h.length n j (h ++ [AO.lst acc]) = some (h ++ [AO.lst (acc ++ (ys.drop j).map f)]) := by
  intro k
  induction k with
  | zero =>
    intro n j acc hk hj hn hz
    have ej : j = ys.length := by omega
    unfold lcI
    rw [hx, List.getElem?_eq_none (by rw [List.length_map]; omega)]
    subst ej
    simp
  | succ k ih =>
    intro n j acc hk hj hn hz
    have hlt : j < ys.length := by omega
    have ex : (ys.map enc)[j]? = some (enc ys[j]) := by simp [hlt]
    obtain ⟨σ2, st⟩ := step ys[j] (List.getElem_mem hlt)
    obtain ⟨e1, e2⟩ := st acc
    unfold lcI
    rw [hx, ex]
    cases n with
    | zero => omega
    | succ n =>
      simp only [e1, tYes'_eq, e2, getLast_app]
      rw [if_pos (size_lt (by omega)), set_last, ih n (j + 1) _ (by omega) (by omega) (by omega) (by simp; omega)]
      rw [List.drop_eq_getElem_cons hlt, List.map_cons, List.append_assoc, List.singleton_append]
theorem aLc2_map {α β : Type} {m : AIt} {a : AI} {vs vs1 : List Nat} {g g1 : AG} {m1 : AIt} {e : AE} {σ : ASt} {h h1 : AH} (em : m σ h = .ok a h1) (xs : List α) (enc : α → PV) (ys : α → List β) (encB : β → PV) (f : α → β → PV) (hn : xs.length ≤ a.n) (hz : (xs.flatMap ys).length < 1000000)
    (hx : ∀ i acc, a.nxt i (h1 ++ [AO.lst acc]) = some (xs.map enc)[i]?)
    (step : ∀ x ∈ xs, ∃ σ1, (∀ acc, g (enc x) (wipeA σ vs) (h1 ++ [AO.lst acc]) = some (σ1, h1 ++ [AO.lst acc])) ∧ (∀ acc, ∃ A, m1 σ1 (h1 ++ [AO.lst acc]) = .ok A (h1 ++ [AO.lst acc]) ∧ A.n = (ys x).length ∧ ∀ i acc', A.nxt i (h1 ++ [AO.lst acc']) = some ((ys x).map encB)[i]?) ∧
      ∀ y ∈ ys x, ∃ σ2, ∀ acc, g1 (encB y) (wipeA σ1 vs1) (h1 ++ [AO.lst acc]) = some (σ2, h1 ++ [AO.lst acc]) ∧ e σ2 (h1 ++ [AO.lst acc]) = .ok (f x y) (h1 ++ [AO.lst acc])) :
    aLc2 m vs g tYes' m1 vs1 g1 tYes' e σ h = .ok (.loc h1.length) (h1 ++ [AO.lst (xs.flatMap fun x => (ys x).map (f x))]) := by
  unfold aLc2
  rw [em, Res.bind_ok]
  have key : ∀ (k n i : Nat) (acc : List PV), k = xs.length - i → i ≤ xs.length → xs.length ≤ n + i → acc.length + ((xs.drop i).flatMap ys).length < 1000000 →
      lcO a vs g tYes' m1 vs1 g1 tYes' e σ h1.length n i (h1 ++ [AO.lst acc]) = .ok (.loc h1.length) (h1 ++ [AO.lst (acc ++ (xs.drop i).flatMap fun x => (ys x).map (f x))]) := by
    intro k
    induction k with
    | zero =>
      intro n i acc hk hi hn hz
      have ei : i = xs.length := by omega
      unfold lcO
      rw [hx, List.getElem?_eq_none (by rw [List.length_map]; omega)]
      subst ei
      simp
    | succ k ih =>
      intro n i acc hk hi hn hz
      have hlt : i < xs.length := by omega
      have ex : (xs.map enc)[i]? = some (enc xs[i]) := by simp [hlt]
      obtain ⟨σ1, s1, s2, s3⟩ := step xs[i] (List.getElem_mem hlt)
      obtain ⟨A, e2, nA, xA⟩ := s2 acc
      have ed : xs.drop i = xs[i] :: xs.drop (i + 1) := List.drop_eq_getElem_cons hlt
      rw [ed, List.flatMap_cons, List.length_append] at hz
      have e3 := lcI_map (a := A) (vs := vs1) (g := g1) (e := e) (σ := σ1) (h := h1) (ys xs[i]) encB (f xs[i]) xA s3 _ A.n 0 acc rfl (Nat.zero_le _) (by omega) (by omega)
      unfold lcO
      rw [hx, ex]
      cases n with
      | zero => omega
      | succ n =>
        simp only [s1, tYes'_eq, e2, e3]
        rw [ih n (i + 1) _ (by omega) (by omega) (by omega) (by rw [List.length_append, List.length_map, List.drop_zero]; omega), ed, List.flatMap_cons, List.append_assoc, List.drop_zero]
  have := key xs.length a.n 0 [] rfl (Nat.zero_le _) (by omega) (by simpa using hz)
  simpa using this
/-- a loop that ends at the first item that gives something; new objects may stay behind -/
theorem for_some {α : Type} {a : AI} {g : AG} {b : AS} (enc : α → PV) (xs : List α) (V : α → Option PV) (h : AH) (I : Nat → ASt → AH → Prop) (hn : a.n = xs.length) (hx : ∀ i G, a.nxt i (h ++ G) = some (xs.map enc)[i]?)
    (step : ∀ i x, xs[i]? = some x → (∀ y ∈ xs.take i, V y = none) → ∀ σ G, I i σ G → ∃ σ1 σ2 G', g (enc x) σ (h ++ G) = some (σ1, h ++ G) ∧ I (i + 1) σ2 G' ∧ b σ1 (h ++ G) = (match V x with | some v => .fin (.rt v) σ2 (h ++ G') | none => .fin .nx σ2 (h ++ G'))) :
    ∀ σ G, I 0 σ G → ∃ i σ' G', I i σ' G' ∧ forA a g b a.n 0 σ (h ++ G) = (match xs.findSome? V with | some v => .fin (.rt v) σ' (h ++ G') | none => .fin .nx σ' (h ++ G')) := by
  have key : ∀ (k n i : Nat) (σ : ASt) (G : AH), k = xs.length - i → i ≤ xs.length → xs.length ≤ n + i → (∀ y ∈ xs.take i, V y = none) → I i σ G → ∃ j σ' G', I j σ' G' ∧ forA a g b n i σ (h ++ G) = (match (xs.drop i).findSome? V with | some v => .fin (.rt v) σ' (h ++ G') | none => .fin .nx σ' (h ++ G')) := by
    intro k
    induction k with
    | zero =>
      intro n i σ G hk hi hn hp hI
      have ei : i = xs.length := by omega
      refine ⟨i, σ, G, hI, ?_⟩
      unfold forA
      rw [hx, List.getElem?_eq_none (by simp; omega)]
      subst ei
      simp
    | succ k ih =>
      intro n i σ G hk hi hn hp hI
      have hlt : i < xs.length := by omega
      have ex : (xs.map enc)[i]? = some (enc xs[i]) := by simp [hlt]
      have ed : xs.drop i = xs[i] :: xs.drop (i + 1) := List.drop_eq_getElem_cons hlt
      obtain ⟨σ1, σ2, G', e1, hI2, e2⟩ := step i xs[i] (by simp [hlt]) hp σ G hI
      cases n with
      | zero => omega
      | succ n =>
        cases c : V xs[i] with
        | some v =>
          rw [c] at e2
          refine ⟨i + 1, σ2, G', hI2, ?_⟩
          rw [ed, List.findSome?_cons, c]
          unfold forA
          rw [hx, ex]
          simp only [e1, e2]
        | none =>
          rw [c] at e2
          obtain ⟨j, σ', G2, hI', e'⟩ := ih n (i + 1) σ2 G' (by omega) (by omega) (by omega) (fun y hy => by
            rw [List.take_succ, List.getElem?_eq_getElem hlt] at hy
            rcases List.mem_append.mp hy with hy | hy
            · exact hp y hy
            · have : y = xs[i] := by simpa using hy
              rw [this]; exact c) hI2
          refine ⟨j, σ', G2, hI', ?_⟩
          rw [ed, List.findSome?_cons, c]
          unfold forA
          rw [hx, ex]
          simp only [e1, e2]
          exact e'
  intro σ G hI
  have := key xs.length a.n 0 σ G rfl (Nat.zero_le _) (by omega) (by simp) hI
  simpa using this
theorem find_flat {α β γ : Type} (f : α → List β) (V : β → Option γ) : ∀ xs : List α, (xs.flatMap f).findSome? V = xs.findSome? fun x => (f x).findSome? V
  | [] => rfl
  | x :: xs => by
    rw [List.flatMap_cons, List.findSome?_append, List.findSome?_cons, find_flat f V xs]
    cases (f x).findSome? V <;> rfl
theorem find_filter {α β : Type} (P : α → Bool) (f : α → β) : ∀ xs : List α, (xs.findSome? fun x => if P x = true then some (f x) else none) = (xs.filter P).head?.map f
  | [] => rfl
  | x :: xs => by
    rw [List.findSome?_cons]
    by_cases c : P x = true
    · rw [if_pos c, List.filter_cons_of_pos c]; rfl
    · rw [if_neg c, List.filter_cons_of_neg c]; exact find_filter P f xs
theorem aItS_lc {m : AE} {σ : ASt} {h h1 : AH} {n : Nat} {xs : List PV} (e : m σ h = .ok (.loc n) h1) (en : h1[n]? = some (.lst xs)) : aItS m σ h = .ok (itLive (.loc n) xs.length) h1 := by
  unfold aItS
  rw [e, Res.bind_ok]
  show itL (.loc n) h1 = _
  unfold itL
  rw [lstOf_loc en]
theorem live_at {h : AH} {n i : Nat} {xs : List PV} (k : Nat) (en : h[n]? = some (.lst xs)) : (itLive (.loc n) k).nxt i h = some xs[i]? := by
  show (lstOf (.loc n) h).map (fun xs => xs[i]?) = _
  rw [lstOf_loc en]; rfl
theorem fMul_l {xs : List PV} {k : Int} {h : AH} (k0 : 0 ≤ k) (k1 : k ≤ 1) (hz : xs.length ≤ 1000000) : fMul (.lst xs) (.int k) h = .ok (.loc h.length) (h ++ [.lst (if k = 1 then xs else [])]) := by
  show (if -(2 ^ 63) ≤ k ∧ k < 2 ^ 63 ∧ xs.length * k.toNat ≤ sizeLine then new (.lst (List.replicate k.toNat xs).flatten) h else .stuck) = _
  have : k = 0 ∨ k = 1 := by omega
  rcases this with rfl | rfl
  · rw [if_pos ⟨by decide, by decide, by simp⟩]; rfl
  · rw [if_pos ⟨by decide, by decide, by simpa using size_ok hz⟩]
    show Res.ok _ (h ++ [AO.lst (xs ++ [])]) = _
    rw [List.append_nil]; rfl
theorem aCallK_k {n nk np : Nat} {perm : List Nat} {m : FN} {l lk : AL} {σ : ASt} {h h1 h2 h3 : AH} {xs ys zs : List PV} {v : PV} (el : l σ h = .ok xs h1) (ek : lk σ h1 = .ok ys h2) (hp : kwG np nk perm xs ys = zs) (hn : zs.length = n) (em : m zs h2 = .ok v h3) : aCallK n nk np perm m l lk σ h = .ok v h3 := by
  unfold aCallK
  rw [el, Res.bind_ok, ek, Res.bind_ok, hp, if_pos hn, em]; rfl
theorem itZip_nxt (b lm : List Int) (i : Nat) (h : AH) : (itZip (b.map PV.int) (lm.map PV.int)).nxt i h = some ((b.zip lm).map prI)[i]? := by
  unfold itZip
  dsimp only
  rw [List.getElem?_map, List.getElem?_map, List.getElem?_map]
  cases c1 : b[i]? with
  | none =>
    have : (b.zip lm)[i]? = none := List.getElem?_eq_none (by have := List.getElem?_eq_none_iff.mp c1; rw [List.length_zip]; omega)
    rw [this]; rfl
  | some x =>
    cases c2 : lm[i]? with
    | none =>
      have : (b.zip lm)[i]? = none := List.getElem?_eq_none (by have := List.getElem?_eq_none_iff.mp c2; rw [List.length_zip]; omega)
      rw [this]; rfl
    | some y => rw [List.getElem?_zip_eq_some (z := (x, y)) |>.mpr ⟨c1, c2⟩]; rfl
end AB

namespace G12
open PySem PySem.Spec
open PyProof.Rows hiding St
open L2 AB MG
theorem tAnd_t {a b : AT} {σ : ASt} {h h1 : AH} (e : a σ h = .ok true h1) : tAnd a b σ h = b σ h1 := by rw [tAnd_eq, e, Res.bind_ok, if_pos rfl]
theorem tAnd_f {a b : AT} {σ : ASt} {h h1 : AH} (e : a σ h = .ok false h1) : tAnd a b σ h = .ok false h1 := by rw [tAnd_eq, e, Res.bind_ok, if_neg (by decide)]
theorem mv_get {h h' : AH} (m : Mv h h') {n : Nat} (hn : 4 ≤ n) : h'[n]? = h[n]? := by
  obtain ⟨l, t, ok, rfl⟩ := m
  have lt := tk.len t ok
  have e4 : tk.K = 4 := rfl
  rw [List.getElem?_append_right (by omega), List.getElem?_drop, lt]
  congr 1; omega
theorem ins_perm {α : Type} (xs : List α) (i : Nat) (y : α) : (xs.take i ++ [y] ++ xs.drop i).Perm (xs ++ [y]) := by
  have e : xs = xs.take i ++ xs.drop i := (List.take_append_drop i xs).symm
  rw [List.append_assoc]
  conv => rhs; rw [e]
  rw [List.append_assoc]
  exact List.Perm.append_left _ List.perm_append_comm
theorem mInsert_ok {n : Nat} {i : Int} {y : PV} {xs : List PV} {h : AH} (e : h[n]? = some (.lst xs)) (h0 : 0 ≤ i) (h1 : i < 1000000) (hz : xs.length < 1000000) : mInsert (.loc n) [.int i, y] h = .ok .non (h.set n (.lst (xs.take i.toNat ++ [y] ++ xs.drop i.toNat))) := by
  unfold mInsert
  simp only [e]
  rw [if_pos ⟨by rw [sizeLine_eq]; omega, h0, by omega⟩]; rfl
noncomputable abbrev bdM : AS := (sExpr (aM isL mInsert (aVar 2) (aCons (aCall 3 m__law_pour (aCons (aVar 0) (aCons (aOp fAdd (aFn fnLen (aCons (aVar 2) (aNil))) (aC (.int 1))) (aCons (aC (.int 8)) (aNil))))) (aCons (aVar 3) (aNil)))))
theorem mix {h : AH} (t : Tp h) {n : Nat} (hn : 4 ≤ n) {xs : List PV} (e : h[n]? = some (.lst xs)) (hz : xs.length ≤ 100000) (hl : PV.lows h.length xs = true) : ∃ ys h', m__law_mix [.loc 3, .loc n] h = .ok (.lst ys) h' ∧ ys.Perm xs ∧ Mv h h' := by
  unfold m__law_mix b__law_mix
  let S : Option PV → ASt := fun o3 => [some (.loc 3), some (.loc n), some (.loc h.length), o3]
  have nl : n < h.length := (List.getElem?_eq_some_iff.mp e).1
  have at_n : ∀ {h1 : AH} {g : AH}, Mv h h1 → (h1 ++ g)[n]? = some (.lst xs) := fun {h1 g} m => by
    rw [List.getElem?_append_left (by rw [m.len]; exact nl), mv_get m hn, e]
  obtain ⟨σ', G, eF, o3, ys, h1, rfl, rfl, m1, pm⟩ := for_live (g := gN 3) (b := bdM) n xs
    (fun i σ G => ∃ o3 ys h1, σ = S o3 ∧ G = h1 ++ [AO.lst ys] ∧ Mv h h1 ∧ ys.Perm (xs.take i)) (σ := S none) (h := h ++ [AO.lst []]) ⟨none, [], h, rfl, rfl, t.rf, by simp⟩
    (fun i σ G ⟨o3, ys, h1, e1, e2, m1, pm⟩ => by rw [e2]; exact at_n m1)
    (fun i x σ G ex ⟨o3, ys, h1, e1, e2, m1, pm⟩ => by
      subst e1; subst e2
      have l1 := m1.len
      have il := (List.getElem?_eq_some_iff.mp ex).1
      have ly : ys.length = i := by rw [pm.length_eq, List.length_take]; omega
      have gL : ∀ {h2 : AH} (q : h2.length = h.length) (zs : List PV), (h2 ++ [AO.lst zs])[h.length]? = some (.lst zs) := fun {h2} q zs => by rw [← q]; exact getLast_app _ _
      obtain ⟨r, f, ep, r0, r1, m2⟩ := pour ((t.mv m1).app [AO.lst ys]) (k := (i : Int) + 1) (sp := 8) (by omega) (by omega) (by omega)
      obtain ⟨h2, rfl, m3⟩ := (t.mv m1).split m2
      have l2 : h2.length = h.length := by rw [m3.len, l1]
      have eln : (aOp fAdd (aFn fnLen (aCons (aVar 2) (aNil))) (aC (.int 1))) (S (some x)) (h1 ++ [AO.lst ys]) = .ok (.int ((i : Int) + 1)) (h1 ++ [AO.lst ys]) :=
        aOp_ok (aFn_ok rfl (by rw [fnLen_seq (seqOf_loc (gL l1 ys)), ly])) rfl (fAdd_i _ _ _)
      have ei : mInsert (.loc h.length) [.int r, x] (h2 ++ [AO.lst ys]) = .ok .non (h2 ++ [AO.lst (ys.take r.toNat ++ [x] ++ ys.drop r.toNat)]) := by
        rw [mInsert_ok (gL l2 ys) r0 (by omega) (by omega), ← l2, set_last]
      refine ⟨S (some x), h1 ++ [AO.lst ys], S (some x), h2 ++ [AO.lst (ys.take r.toNat ++ [x] ++ ys.drop r.toNat)], rfl, ?_, some x, _, h2, rfl, rfl, m1.tr m3, ?_⟩
      · exact sExpr_ok (aM_ok rfl (by unfold isL; rw [lstOf_loc (gL l1 ys)]; rfl) (aCons_ok (aCall_ok (aCons_ok rfl (aCons_ok eln (aCons_ok rfl rfl))) rfl ep) (aCons_ok rfl rfl)) ei)
      · refine (ins_perm ys r.toNat x).trans ?_
        rw [List.take_succ, ex]
        exact pm.append_right [x])
  rw [List.take_length] at pm
  have l1 := m1.len
  have low : PV.lows h.length ys = true := low_all fun x hx => belows_iff.mp hl x (pm.mem_iff.mp hx)
  refine ⟨ys, h1, (mDef_rt (σ := S o3) (h1 := h1 ++ [AO.lst ys]) (v := .loc h.length) ?_).trans (finC_mv t m1 (frz_new (Nat.le_refl _) (by rw [← l1]; exact getLast_app _ _) low)), pm, m1⟩
  refine sSeq_ok (σ1 := S none) (h1 := h ++ [AO.lst []]) (sSet_ok (aLst_ok rfl (by simp))) ?_
  refine sSeq_ok (sFor_ok (aItS_lc (n := n) (xs := xs) rfl (at_n t.rf)) eF) ?_
  exact sRet_ok rfl
end G12

namespace AB
open PySem PySem.Spec
open PyProof.Rows hiding St
open L2
/-- a for over what stays, the heap stays -/
theorem for_at {g : AG} {b : AS} {a : AI} (xs : List PV) (h : AH) (I : Nat → ASt → Prop) (hn : a.n = xs.length) (hx : ∀ i, a.nxt i h = some xs[i]?) {σ : ASt} (h0 : I 0 σ)
    (step : ∀ i x σ, xs[i]? = some x → I i σ → ∃ σ1 σ2, g x σ h = some (σ1, h) ∧ b σ1 h = .fin .nx σ2 h ∧ I (i + 1) σ2) :
    ∃ σ', forA a g b a.n 0 σ h = .fin .nx σ' h ∧ I xs.length σ' :=
  forA_rule (a := a) xs (fun i σ g => g = h ∧ I i σ) (fun r => ∃ σ', r = .fin .nx σ' h ∧ I xs.length σ') (by omega) (fun i _ g _ hI => by rw [hI.1]; exact hx i)
    (fun i x σ g ex ⟨eg, hI⟩ => by
      rw [eg]
      obtain ⟨σ1, σ2, e1, e2, e3⟩ := step i x σ ex hI
      exact ⟨σ1, h, e1, .inl ⟨σ2, h, .inl e2, rfl, e3⟩⟩) (fun σ g ⟨eg, hI⟩ => ⟨σ, by rw [eg], hI⟩) ⟨rfl, h0⟩
theorem aItS_loc {m : AE} {σ : ASt} {h h1 : AH} {n : Nat} {xs : List PV} (e : m σ h = .ok (.loc n) h1) (en : h1[n]? = some (.lst xs)) : aItS m σ h = .ok (itLive (.loc n) xs.length) h1 := by
  unfold aItS
  rw [e, Res.bind_ok]
  show itL (.loc n) h1 = _
  unfold itL
  rw [lstOf_loc en]
theorem live_nxt {h : AH} {n i : Nat} {xs : List PV} (k : Nat) (en : h[n]? = some (.lst xs)) : (itLive (.loc n) k).nxt i h = some xs[i]? := by
  show (lstOf (.loc n) h).map (fun xs => xs[i]?) = _
  rw [lstOf_loc en]; rfl
end AB

namespace G12
open PySem PySem.Spec
open PyProof.Rows hiding St
open L2 AB MG
theorem cutP_map {α β : Type} (f : α → β) (xs : List α) (lo hi : Option Int) : cutP (xs.map f) lo hi = (cutP xs lo hi).map f := by
  unfold cutP
  rw [List.length_map, List.map_take, List.map_drop]
theorem fShl_1 (h : AH) : fShl (.int 1) (.int 2000) h = .ok (.int (1 * 2 ^ (2000 : Int).toNat)) h := by
  have q : bPow 1 2000 = true := by simp only [bPow, Bool.and_eq_true, decide_eq_true_eq]; exact ⟨⟨by omega, by omega⟩, by decide⟩
  exact if_pos (e := (Res.stuck : Res PV)) q
theorem fPow_10 (h : AH) : fPow (.int 10) (.int 18) h = .ok (.int (10 ^ (18 : Int).toNat)) h := by
  have q : bPow 10 18 = true := by simp only [bPow, Bool.and_eq_true, decide_eq_true_eq]; exact ⟨⟨by omega, by omega⟩, by decide⟩
  exact if_pos (e := (Res.stuck : Res PV)) q
noncomputable abbrev bdX : AS := (sSeq (sSet 4 (aOp fMod (aFn fnAbs (aCons (aFn fnInt (aCons (aVar 3) (aNil))) (aNil))) (aOp fShl (aC (.int 1)) (aC (.int 2000))))) (sSeq (sSet 2 (aOp fMod (aFn fnInt (aCons (aOp fAdd (aOp fAdd (aOp fMul (aVar 2) (aC (.int 16807))) (aOp fMod (aVar 4) (aC (.int 1999999951)))) (aC (.int 79))) (aNil))) (aC (.int 2147483549)))) (sIf (aB (aOp fGe (aVar 4) (aOp fPow (aC (.int 10)) (aC (.int 18))))) (sExpr (aM isL mAppend (aVar 1) (aCons (aVar 4) (aNil)))) (sNext))))
noncomputable abbrev bdY : AS := (sSeq (sSet 5 (aOp fMod (aFn fnInt (aCons (aOp fAdd (aOp fMul (aVar 5) (aC (.int 69621))) (aC (.int 71))) (aNil))) (aC (.int 2147483629)))) (sExpr (aM isL mAppend (aVar 6) (aCons (aOp fIx (aTup (aCons (aC (.int 3)) (aCons (aC (.int 3)) (aCons (aC (.int 2)) (aCons (aC (.int 3)) (aCons (aC (.int 0)) (aCons (aC (.int 3)) (aCons (aC (.int 1)) (aCons (aC (.int 3)) (aNil)))))))))) (aOp fMod (aFn fnInt (aCons (aOp fFdiv (aVar 5) (aC (.int 32768))) (aNil))) (aC (.int 8)))) (aNil)))))
def spo : List Int := [3, 3, 2, 3, 0, 3, 1, 3]
theorem kettle (ns : List Int) : ∃ h', m__law_kettle [.ro (ns.map PV.int)] [] = .ok (.loc 3) h' ∧ Tp h' := by
  unfold m__law_kettle b__law_kettle
  let a : PV := .ro (ns.map PV.int)
  let ms : List Int := cutP ns none (some 64)
  let sl : List PV := ms.map .int
  have lm : ms.length ≤ 64 := by
    show (cutP ns none (some 64)).length ≤ 64
    unfold cutP
    rw [List.length_take]
    have : HT.sIx ns.length ns.length (some 64) ≤ 64 := by
      rw [show (some (64 : Int)) = some ((64 : Nat) : Int) from rfl, HT.sIx_nat]; omega
    omega
  let S : Int → Option PV → Option PV → ASt := fun m o3 o4 => [some a, some (.loc 0), some (.int m), o3, o4, none, none, none]
  have e1 : aItS (aSl (aVar 0) (aNoP) (aSoP (aC (.int 64)))) (S 12311 none none) [.lst []] = .ok (itLive (.loc 1) sl.length) [AO.lst [], .lst sl] := by
    have e : (aSl (aVar 0) (aNoP) (aSoP (aC (.int 64)))) (S 12311 none none) [AO.lst []] = .ok (.loc 1) [AO.lst [], .lst sl] := by
      show Res.ok (PV.loc 1) ([AO.lst []] ++ [AO.lst (cutP (ns.map PV.int) none (some 64))]) = _
      rw [cutP_map]; rfl
    exact aItS_loc e rfl
  obtain ⟨σ', g, eF, m, o3, o4, nums, rfl, rfl, ln⟩ := for_live (g := gN 3) (b := bdX) 1 sl
    (fun i σ g => ∃ (m : Int) (o3 o4 : Option PV) (nums : List Int), σ = S m o3 o4 ∧ g = [AO.lst (nums.map .int), .lst sl] ∧ nums.length ≤ i) (σ := S 12311 none none) (h := [AO.lst [], .lst sl]) ⟨12311, none, none, [], rfl, rfl, by simp⟩
    (fun i σ g ⟨_, _, _, nums, _, e, _⟩ => by rw [e]; rfl)
    (fun i x σ g ex ⟨m, o3, o4, nums, e1, e2, ln⟩ => by
      subst e1; subst e2
      have il : i < 64 := by have := (List.getElem?_eq_some_iff.mp ex).1; simp [sl] at this; omega
      obtain ⟨c, rfl⟩ : ∃ c : Int, x = .int c := by
        obtain ⟨c, _, e⟩ := List.mem_map.mp (List.mem_of_getElem? ex); exact ⟨c, e.symm⟩
      let g : AH := [AO.lst (nums.map .int), .lst sl]
      let s : Int := (if c < 0 then -c else c) % (1 * 2 ^ (2000 : Int).toNat)
      have es : fMod (.int (if c < 0 then -c else c)) (.int (1 * 2 ^ (2000 : Int).toNat)) g = .ok (.int s) g := fMod_i (by rw [Int.one_mul]; exact Int.pow_pos (by omega)) _
      have e4 : (sSet 4 (aOp fMod (aFn fnAbs (aCons (aFn fnInt (aCons (aVar 3) (aNil))) (aNil))) (aOp fShl (aC (.int 1)) (aC (.int 2000))))) (S m (some (.int c)) o4) g = .fin .nx (S m (some (.int c)) (some (.int s))) g :=
        sSet_ok (aOp_ok (aFn_ok (aCons_ok (aFn_ok rfl (fnInt_i _ _)) rfl) (show fnAbs [.int c] g = .ok (.int (if c < 0 then -c else c)) g from rfl)) (aOp_ok rfl rfl (fShl_1 _)) es)
      clear_value s
      let m2 : Int := (m * 16807 + s % 1999999951 + 79) % 2147483549
      have e5 : (sSet 2 (aOp fMod (aFn fnInt (aCons (aOp fAdd (aOp fAdd (aOp fMul (aVar 2) (aC (.int 16807))) (aOp fMod (aVar 4) (aC (.int 1999999951)))) (aC (.int 79))) (aNil))) (aC (.int 2147483549)))) (S m (some (.int c)) (some (.int s))) g = .fin .nx (S m2 (some (.int c)) (some (.int s))) g :=
        sSet_ok (aOp_ok (aFn_ok (aCons_ok (aOp_ok (aOp_ok (aOp_ok rfl rfl (fMul_i (by omega) (by omega) _)) (aOp_ok rfl rfl (fMod_i (by omega) _)) (fAdd_i _ _ _)) rfl (fAdd_i _ _ _)) rfl) (fnInt_i _ _)) rfl (fMod_i (by omega) _))
      have ec : (aB (aOp fGe (aVar 4) (aOp fPow (aC (.int 10)) (aC (.int 18))))) (S m2 (some (.int c)) (some (.int s))) g = .ok (decide ((10 ^ (18 : Int).toNat : Int) ≤ s)) g := aB_ok (aOp_ok rfl (aOp_ok rfl rfl (fPow_10 _)) (fGe_i _ _ _))
      obtain ⟨nums', l', e6⟩ : ∃ nums' : List Int, nums'.length ≤ i + 1 ∧ (sIf (aB (aOp fGe (aVar 4) (aOp fPow (aC (.int 10)) (aC (.int 18))))) (sExpr (aM isL mAppend (aVar 1) (aCons (aVar 4) (aNil)))) (sNext)) (S m2 (some (.int c)) (some (.int s))) g = .fin .nx (S m2 (some (.int c)) (some (.int s))) [AO.lst (nums'.map .int), .lst sl] := by
        by_cases d : (10 ^ (18 : Int).toNat : Int) ≤ s
        · rw [decide_eq_true d] at ec
          refine ⟨nums ++ [s], by simp; omega, (sIf_t ec).trans ?_⟩
          have ap : mAppend (.loc 0) [.int s] g = .ok .non [AO.lst ((nums ++ [s]).map .int), .lst sl] := by
            rw [mAppend_ok (n := 0) (xs := nums.map .int) rfl (by simp; omega), List.map_append]; rfl
          exact sExpr_ok (v := .non) (aM_ok rfl rfl rfl ap)
        · rw [decide_eq_false d] at ec
          exact ⟨nums, by omega, (sIf_f ec).trans rfl⟩
      refine ⟨_, _, _, _, rfl, by { refine sSeq_ok e4 ?_; refine sSeq_ok e5 ?_; exact e6 }, m2, _, _, nums', rfl, rfl, l'⟩)
  have lsl : sl.length ≤ 64 := by simp [sl]; exact lm
  let R : Option PV → Option PV → Option PV → ASt := fun o5 o6 o7 => [some a, some (.loc 0), some (.int m), o3, o4, o5, o6, o7]
  let G : List Int → AH := fun ls => [AO.lst (nums.map .int), .lst sl, .lst (ls.map .int)]
  obtain ⟨σ2, g2, eF2, l, o7, ls, rfl, rfl, ll, lb⟩ := for_rg (g := gN 7) (b := bdY) 0 8
    (fun i σ g => ∃ (l : Int) (o7 : Option PV) (ls : List Int), σ = R (some (.int l)) (some (.loc 2)) o7 ∧ g = G ls ∧ ls.length = i ∧ ∀ x ∈ ls, 0 ≤ x ∧ x ≤ 3) (σ := R (some (.int (m + 13))) (some (.loc 2)) none) (h := G []) ⟨m + 13, none, [], rfl, rfl, rfl, by simp⟩
    (fun i σ g hi ⟨l, o7, ls, e1, e2, ll, lb⟩ => by
      subst e1; subst e2
      let l2 : Int := (l * 69621 + 71) % 2147483629
      let σ1 := R (some (.int l)) (some (.loc 2)) (some (.int ((0 : Int) + (i : Nat))))
      have e5 : (sSet 5 (aOp fMod (aFn fnInt (aCons (aOp fAdd (aOp fMul (aVar 5) (aC (.int 69621))) (aC (.int 71))) (aNil))) (aC (.int 2147483629)))) σ1 (G ls) = .fin .nx (R (some (.int l2)) (some (.loc 2)) (some (.int ((0 : Int) + (i : Nat))))) (G ls) :=
        sSet_ok (aOp_ok (aFn_ok (aCons_ok (aOp_ok (aOp_ok rfl rfl (fMul_i (by omega) (by omega) _)) rfl (fAdd_i _ _ _)) rfl) (fnInt_i _ _)) rfl (fMod_i (by omega) _))
      have l0 : 0 ≤ l2 := by show 0 ≤ (l * 69621 + 71) % 2147483629; omega
      clear_value l2
      obtain ⟨q, hq, q8⟩ : ∃ q : Nat, l2 / 32768 % 8 = q ∧ q < 8 := ⟨(l2 / 32768 % 8).toNat, by omega, by omega⟩
      have eq : (aOp fMod (aFn fnInt (aCons (aOp fFdiv (aVar 5) (aC (.int 32768))) (aNil))) (aC (.int 8))) (R (some (.int l2)) (some (.loc 2)) (some (.int ((0 : Int) + (i : Nat))))) (G ls) = .ok (.int q) (G ls) := by
        rw [← hq]
        exact aOp_ok (aFn_ok (aCons_ok (aOp_ok rfl rfl (fFdiv_i (by omega) (by omega) _)) rfl) (fnInt_i _ _)) rfl (fMod_i (by omega) _)
      have hql : q < spo.length := q8
      have et : (aTup (aCons (aC (.int 3)) (aCons (aC (.int 3)) (aCons (aC (.int 2)) (aCons (aC (.int 3)) (aCons (aC (.int 0)) (aCons (aC (.int 3)) (aCons (aC (.int 1)) (aCons (aC (.int 3)) (aNil)))))))))) (R (some (.int l2)) (some (.loc 2)) (some (.int ((0 : Int) + (i : Nat))))) (G ls) = .ok (.tup (spo.map .int)) (G ls) := aTup_ok (xs := spo.map .int) rfl (by decide)
      have ex : (aOp fIx (aTup (aCons (aC (.int 3)) (aCons (aC (.int 3)) (aCons (aC (.int 2)) (aCons (aC (.int 3)) (aCons (aC (.int 0)) (aCons (aC (.int 3)) (aCons (aC (.int 1)) (aCons (aC (.int 3)) (aNil)))))))))) (aOp fMod (aFn fnInt (aCons (aOp fFdiv (aVar 5) (aC (.int 32768))) (aNil))) (aC (.int 8)))) (R (some (.int l2)) (some (.loc 2)) (some (.int ((0 : Int) + (i : Nat))))) (G ls) = .ok (.int spo[q]) (G ls) :=
        aOp_ok et eq (fIx_tup (atI_nat (by rw [List.getElem?_map, List.getElem?_eq_getElem hql]; rfl)))
      have ap : mAppend (.loc 2) [.int spo[q]] (G ls) = .ok .non (G (ls ++ [spo[q]])) := by
        rw [mAppend_ok (n := 2) (xs := ls.map .int) rfl (by simp; omega)]
        show Res.ok PV.non ((G ls).set 2 (AO.lst (ls.map PV.int ++ [PV.int spo[q]]))) = .ok .non [AO.lst (nums.map .int), .lst sl, .lst ((ls ++ [spo[q]]).map .int)]
        rw [List.map_append]; rfl
      have hall : ∀ x ∈ spo, 0 ≤ x ∧ x ≤ 3 := by decide
      exact ⟨σ1, _, _, _, rfl, sSeq_ok e5 (sExpr_ok (aM_ok rfl (isL_loc (xs := ls.map .int) rfl) (aCons_ok (l := aNil) ex rfl) ap)), l2, _, ls ++ [spo[q]], rfl, rfl, by simp; omega, fun x hx => by
        rcases List.mem_append.mp hx with hx | hx
        · exact lb x hx
        · rw [List.mem_singleton] at hx; subst hx; exact hall _ (List.getElem_mem hql)⟩)
  refine ⟨[.lst (nums.map .int), .lst sl, .lst (ls.map .int), .lst [.loc 0, .int m, .loc 2, .int l]], ?_, nums, ls, .lst sl, m, l, rfl, low_ints _ _, by omega, ll, lb⟩
  refine mDefK_rt (σ := R (some (.int l)) (some (.loc 2)) o7) ?_
  refine sSeq_ok (σ1 := [some a, some (.loc 0), none, none, none, none, none, none]) (h1 := [AO.lst []]) (sSet_ok (aLst_ok (h1 := ([] : AH)) (xs := []) rfl (by simp))) ?_
  refine sSeq_ok (σ1 := S 12311 none none) (h1 := [AO.lst []]) (sSet_ok rfl) ?_
  refine sSeq_ok (sFor_ok e1 eF) ?_
  refine sSeq_ok (σ1 := R (some (.int (m + 13))) none none) (h1 := [AO.lst (nums.map .int), .lst sl]) (sSet_ok (aOp_ok rfl rfl (fAdd_i _ _ _))) ?_
  refine sSeq_ok (σ1 := R (some (.int (m + 13))) (some (.loc 2)) none) (h1 := G []) (sSet_ok (aLst_ok (h1 := [AO.lst (nums.map .int), .lst sl]) (xs := []) rfl (by simp))) ?_
  refine sSeq_ok (sFor_ok (aItR1_ok (j := 8) rfl (by omega) (by omega)) eF2) ?_
  exact sRet_ok (aLst_ok (h1 := G ls) (xs := [.loc 0, .int m, .loc 2, .int l]) rfl (by simp))
theorem tCut_mv {m : AT} {σ : ASt} {h h1 g : AH} {b : Bool} (mv : Mv h h1) (e : m σ h = .ok b (h1 ++ g)) : tCut m σ h = .ok b h1 := by
  unfold tCut
  rw [e]
  dsimp only
  have l := mv.len
  rw [if_pos (cutB_of fun n hn => ?_)]
  · rw [← l, List.take_left]
  · rw [List.getElem?_append_left (by omega)]
    exact mv.low n hn
end G12

namespace G12
open PySem PySem.Spec
open PyProof.Rows hiding St
open L2 AB MG
/-- a number poured, new objects behind -/
theorem pourG {h : AH} (t : Tp h) (G : AH) {k : Int} {sp : Nat} (hk : 0 < k) (kz : k < 1073741824) (hs : sp ≤ 8) : ∃ r h', m__law_pour [.loc 3, .int k, .int sp] (h ++ G) = .ok (.int r) (h' ++ G) ∧ 0 ≤ r ∧ r < k ∧ Mv h h' := by
  obtain ⟨r, f, e, r0, r1, m⟩ := pour (t.app G) hk kz hs
  obtain ⟨h', rfl, m'⟩ := t.split m
  exact ⟨r, h', e, r0, r1, m'⟩
structure EI (n : Nat) (os : List Nat) (E : List (Nat × Nat)) (m : Nat) : Prop where
  lt : ∀ e ∈ E, e.1 < n ∧ e.2 < n
  cn : ∀ p, p ≤ m → Cn E (os.getD 0 0) (os.getD p 0)
theorem EI.add {n m : Nat} {os : List Nat} {E : List (Nat × Nat)} (i : EI n os E m) {e : Nat × Nat} (h : e.1 < n ∧ e.2 < n) : EI n os (E ++ [e]) m :=
  ⟨fun x hx => by
    rcases List.mem_append.mp hx with hx | hx
    · exact i.lt x hx
    · rw [List.mem_singleton] at hx; subst hx; exact h, fun p hp => (i.cn p hp).mono fun e he => List.mem_append_left _ he⟩
section
variable {n : Nat} {os : List Nat} (pm : os.Perm (List.range n))
include pm
theorem os_len : os.length = n := by rw [pm.length_eq, List.length_range]
theorem os_lt {i : Nat} (hi : i < n) : os.getD i 0 < n := by
  have l := os_len pm
  have : os.getD i 0 ∈ os := by rw [List.getD_eq_getElem?_getD, List.getElem?_eq_getElem (by omega)]; exact List.getElem_mem _
  exact List.mem_range.mp (pm.mem_iff.mp this)
theorem os_ix {i : Nat} (hi : i < n) (h : AH) : fIx (.lst (os.map nI)) (.int i) h = .ok (nI (os.getD i 0)) h := by
  have l := os_len pm
  exact fIx_lst (atI_nat (by rw [List.getElem?_map, List.getElem?_eq_getElem (by omega), List.getD_eq_getElem?_getD, List.getElem?_eq_getElem (by omega)]; rfl))
end
def sgN (n most : Nat) (p3 : PV) (os : List Nat) (k : Nat) (o6 o7 o8 o9 o10 o11 o12 o13 : Option PV) : ASt := [some (.loc 3), some (.int n), some (.int most), some p3, some (.lst (os.map nI)), some (.loc k), o6, o7, o8, o9, o10, o11, o12, o13]
noncomputable abbrev bdN1 : AS := (sExpr (aM isL mAppend (aVar 5) (aCons (aTup (aCons (aOp fIx (aVar 4) (aVar 7)) (aCons (aIf (aTr (aVar 6)) (aOp fIx (aVar 4) (aOp fSub (aVar 7) (aC (.int 1)))) (aOp fIx (aVar 4) (aCall 3 m__law_pour (aCons (aVar 0) (aCons (aVar 7) (aCons (aC (.int 1)) (aNil))))))) (aNil)))) (aNil))))
noncomputable abbrev bdN2 : AS := (sIf (aB (aOp fEq (aCall 3 m__law_pour (aCons (aVar 0) (aCons (aC (.int 4)) (aCons (aC (.int 3)) (aNil))))) (aC (.int 0)))) (sExpr (aM isL mAppend (aVar 5) (aCons (aOp fIx (aVar 5) (aCall 3 m__law_pour (aCons (aVar 0) (aCons (aFn fnLen (aCons (aVar 5) (aNil))) (aCons (aC (.int 8)) (aNil)))))) (aNil)))) (sSeq (sSet 10 (aCall 3 m__law_pour (aCons (aVar 0) (aCons (aVar 1) (aCons (aC (.int 8)) (aNil)))))) (sExpr (aM isL mAppend (aVar 5) (aCons (aTup (aCons (aVar 10) (aCons (aOp fMod (aFn fnInt (aCons (aOp fAdd (aOp fAdd (aVar 10) (aC (.int 1))) (aCall 3 m__law_pour (aCons (aVar 0) (aCons (aOp fSub (aVar 1) (aC (.int 1))) (aCons (aC (.int 8)) (aNil)))))) (aNil))) (aVar 1)) (aNil)))) (aNil))))))
theorem netA {h : AH} (t : Tp h) {n most : Nat} {p3 : PV} {os : List Nat} (pm : os.Perm (List.range n)) (hn : 1 ≤ n) (hn2 : n ≤ 10) (ring : Bool) {h1 : AH} (m0 : Mv h h1) :
    ∃ (o7 : Option PV) (E : List (Nat × Nat)) (h2 : AH), forA (itRg 1 (n - 1)) (gN 7) bdN1 (n - 1) 0 (sgN n most p3 os h.length (some (.bl ring)) none none none none none none none) (h1 ++ [AO.lst []]) = .fin .nx (sgN n most p3 os h.length (some (.bl ring)) o7 none none none none none none) (h2 ++ [AO.lst (E.map pairV)]) ∧ Mv h h2 ∧ E.length = n - 1 ∧ EI n os E (n - 1) := by
  let S := fun o7 => sgN n most p3 os h.length (some (.bl ring)) o7 none none none none none none
  obtain ⟨σ', G, eF, o7, E, h2, rfl, rfl, m2, lE, ei⟩ := for_rg (g := gN 7) (b := bdN1) 1 (n - 1)
    (fun i σ G => ∃ (o7 : Option PV) (E : List (Nat × Nat)) (h1 : AH), σ = S o7 ∧ G = h1 ++ [AO.lst (E.map pairV)] ∧ Mv h h1 ∧ E.length = i ∧ EI n os E i) (σ := S none) (h := h1 ++ [AO.lst ([].map pairV)]) ⟨none, [], h1, rfl, rfl, m0, rfl, by simp, fun p hp => (show 0 = p by omega) ▸ Cn.rf _⟩
    (fun i σ G hi ⟨o7, E, h1, e1, e2, m1, lE, ei⟩ => by
      subst e1; subst e2
      have l1 := m1.len
      have t1 := t.mv m1
      have eat : (1 : Int) + (i : Nat) = ((i + 1 : Nat) : Int) := by omega
      rw [eat]
      obtain ⟨q, hq, h2, e2, m2⟩ : ∃ (q : Nat) (_ : q ≤ i) (h2 : AH), (aIf (aTr (aVar 6)) (aOp fIx (aVar 4) (aOp fSub (aVar 7) (aC (.int 1)))) (aOp fIx (aVar 4) (aCall 3 m__law_pour (aCons (aVar 0) (aCons (aVar 7) (aCons (aC (.int 1)) (aNil))))))) (S (some (.int ((i + 1 : Nat) : Int)))) (h1 ++ [AO.lst (E.map pairV)]) = .ok (nI (os.getD q 0)) (h2 ++ [AO.lst (E.map pairV)]) ∧ Mv h1 h2 := by
        cases ring with
        | true =>
          have es : (aOp fSub (aVar 7) (aC (.int 1))) (S (some (.int ((i + 1 : Nat) : Int)))) (h1 ++ [AO.lst (E.map pairV)]) = .ok (.int (i : Nat)) (h1 ++ [AO.lst (E.map pairV)]) := (aOp_ok (x := .int ((i + 1 : Nat) : Int)) (y := .int 1) rfl rfl (fSub_i _ _ _)).trans (by rw [show (((i + 1 : Nat) : Int) - 1) = ((i : Nat) : Int) by omega])
          exact ⟨i, Nat.le_refl _, h1, (aIf_t (aTr_ok rfl)).trans (aOp_ok rfl es (os_ix pm (by omega) _)), t1.rf⟩
        | false =>
          obtain ⟨r, h2, ep, r0, r1, m2⟩ := pourG t1 [AO.lst (E.map pairV)] (k := ((i + 1 : Nat) : Int)) (sp := 1) (by omega) (by omega) (by omega)
          obtain ⟨q, rfl⟩ : ∃ q : Nat, r = q := ⟨r.toNat, by omega⟩
          exact ⟨q, by omega, h2, (aIf_f (aTr_ok rfl)).trans (aOp_ok rfl (aCall_ok rfl rfl ep) (os_ix pm (by omega) _)), m2⟩
      have l2 : h2.length = h.length := by rw [m2.len, l1]
      let e : Nat × Nat := (os.getD (i + 1) 0, os.getD q 0)
      have eap : mAppend (.loc h.length) [pairV e] (h2 ++ [AO.lst (E.map pairV)]) = .ok .non (h2 ++ [AO.lst ((E ++ [e]).map pairV)]) := by
        rw [ap0 l2 (by simp; omega)]; simp
      have eb : bdN1 (S (some (.int ((i + 1 : Nat) : Int)))) (h1 ++ [AO.lst (E.map pairV)]) = .fin .nx (S (some (.int ((i + 1 : Nat) : Int)))) (h2 ++ [AO.lst ((E ++ [e]).map pairV)]) :=
        sExpr_ok (aM_ok rfl (isL0 l1) (aCons_ok (aTup_ok (xs := [nI e.1, nI e.2]) (aCons_ok (aOp_ok rfl rfl (os_ix pm (by omega) _)) (aCons_ok e2 rfl)) (by simp)) rfl) eap)
      refine ⟨_, _, _, _, rfl, eb, _, E ++ [e], h2, rfl, rfl, m1.tr m2, by simp [lE], (ei.add (e := e) ⟨os_lt pm (by omega), os_lt pm (by omega)⟩).lt, fun p hp => ?_⟩
      by_cases c : p ≤ i
      · exact (ei.cn p c).mono fun e he => List.mem_append_left _ he
      · have : p = i + 1 := by omega
        subst this
        exact .bw ((ei.cn q hq).mono fun e he => List.mem_append_left _ he) (by simp [e]))
  exact ⟨o7, E, h2, eF, m2, lE, ei⟩
theorem netB {h : AH} (t : Tp h) {n most more : Nat} {p3 : PV} {os : List Nat} (hn : 2 ≤ n) (hn2 : n ≤ 10) (o6 o7 : Option PV) (hm : more ≤ 30) {h1 : AH} (m0 : Mv h h1) {E : List (Nat × Nat)} (lE : 0 < E.length) (lE2 : E.length ≤ 10) (ei : EI n os E (n - 1)) :
    ∃ (o9 o10 : Option PV) (E' : List (Nat × Nat)) (h2 : AH), forA (itRg 0 more) (gN 9) bdN2 more 0 (sgN n most p3 os h.length o6 o7 (some (.int more)) none none none none none) (h1 ++ [AO.lst (E.map pairV)]) = .fin .nx (sgN n most p3 os h.length o6 o7 (some (.int more)) o9 o10 none none none) (h2 ++ [AO.lst (E'.map pairV)]) ∧ Mv h h2 ∧ E'.length = E.length + more ∧ EI n os E' (n - 1) := by
  let S := fun o9 o10 => sgN n most p3 os h.length o6 o7 (some (.int more)) o9 o10 none none none
  obtain ⟨σ', G, eF, o9, o10, E', h2, rfl, rfl, m2, lE', ei'⟩ := for_rg (g := gN 9) (b := bdN2) 0 more
    (fun i σ G => ∃ (o9 o10 : Option PV) (F : List (Nat × Nat)) (h1 : AH), σ = S o9 o10 ∧ G = h1 ++ [AO.lst (F.map pairV)] ∧ Mv h h1 ∧ F.length = E.length + i ∧ EI n os F (n - 1)) (σ := S none none) (h := h1 ++ [AO.lst (E.map pairV)]) ⟨none, none, E, h1, rfl, rfl, m0, rfl, ei⟩
    (fun i σ G hi ⟨o9, o10, F, h1, e1, e2, m1, lF, ei⟩ => by
      subst e1; subst e2
      have l1 := m1.len
      have t1 := t.mv m1
      let o9' : Option PV := some (.int ((0 : Int) + (i : Nat)))
      obtain ⟨r, h2, ep, r0, r1, m2⟩ := pourG t1 [AO.lst (F.map pairV)] (k := 4) (sp := 3) (by omega) (by omega) (by omega)
      have t2 := t1.mv m2
      have l2 : h2.length = h.length := by rw [m2.len, l1]
      have ec : (aB (aOp fEq (aCall 3 m__law_pour (aCons (aVar 0) (aCons (aC (.int 4)) (aCons (aC (.int 3)) (aNil))))) (aC (.int 0)))) (S o9' o10) (h1 ++ [AO.lst (F.map pairV)]) = .ok (decide (r = 0)) (h2 ++ [AO.lst (F.map pairV)]) := aB_ok (aOp_ok (aCall_ok rfl rfl ep) rfl (fEq_i _ _ _))
      by_cases c : r = 0
      · rw [decide_eq_true c] at ec
        obtain ⟨s, h3, ep3, s0, s1, m3⟩ := pourG t2 [AO.lst (F.map pairV)] (k := F.length) (sp := 8) (by omega) (by omega) (by omega)
        obtain ⟨q, rfl⟩ : ∃ q : Nat, s = q := ⟨s.toNat, by omega⟩
        have ql : q < F.length := by omega
        have l3 : h3.length = h.length := by rw [m3.len, l2]
        have eln : fnLen [.loc h.length] (h2 ++ [AO.lst (F.map pairV)]) = .ok (.int F.length) (h2 ++ [AO.lst (F.map pairV)]) := by rw [len0 l2, List.length_map]
        have eix : fIx (.loc h.length) (.int q) (h3 ++ [AO.lst (F.map pairV)]) = .ok (pairV F[q]) (h3 ++ [AO.lst (F.map pairV)]) := fIx_loc (g0 l3) (atI_nat (by rw [List.getElem?_map, List.getElem?_eq_getElem ql]; rfl))
        have eap : mAppend (.loc h.length) [pairV F[q]] (h3 ++ [AO.lst (F.map pairV)]) = .ok .non (h3 ++ [AO.lst ((F ++ [F[q]]).map pairV)]) := by
          rw [ap0 l3 (by simp; omega)]; simp
        refine ⟨S o9' o10, _, S o9' o10, h3 ++ [AO.lst ((F ++ [F[q]]).map pairV)], rfl, (sIf_t ec).trans (sExpr_ok (aM_ok rfl (isL0 l2) (aCons_ok (aOp_ok rfl (aCall_ok (aCons_ok rfl (aCons_ok (aFn_ok rfl eln) (aCons_ok rfl rfl))) rfl ep3) eix) rfl) eap)), o9', o10, F ++ [F[q]], h3, rfl, rfl, (m1.tr m2).tr m3, by simp [lF]; omega, ei.add (ei.lt _ (List.getElem_mem ql))⟩
      · rw [decide_eq_false c] at ec
        obtain ⟨s, h3, ep3, s0, s1, m3⟩ := pourG t2 [AO.lst (F.map pairV)] (k := n) (sp := 8) (by omega) (by omega) (by omega)
        have t3 := t2.mv m3
        have l3 : h3.length = h.length := by rw [m3.len, l2]
        obtain ⟨a, rfl⟩ : ∃ q : Nat, s = q := ⟨s.toNat, by omega⟩
        obtain ⟨u, h4, ep4, u0, u1, m4⟩ := pourG t3 [AO.lst (F.map pairV)] (k := (n : Int) - 1) (sp := 8) (by omega) (by omega) (by omega)
        have l4 : h4.length = h.length := by rw [m4.len, l3]
        obtain ⟨b, hb⟩ : ∃ b : Nat, ((a : Int) + 1 + u) % n = b := ⟨(((a : Int) + 1 + u) % n).toNat, by
          have := Int.emod_nonneg ((a : Int) + 1 + u) (show (n : Int) ≠ 0 by omega); omega⟩
        have hb2 : b < n := by
          have := Int.emod_lt_of_pos ((a : Int) + 1 + u) (show (0 : Int) < n by omega); omega
        have eap : mAppend (.loc h.length) [pairV (a, b)] (h4 ++ [AO.lst (F.map pairV)]) = .ok .non (h4 ++ [AO.lst ((F ++ [(a, b)]).map pairV)]) := by
          rw [ap0 l4 (by simp; omega)]; simp
        have eb : (aOp fMod (aFn fnInt (aCons (aOp fAdd (aOp fAdd (aVar 10) (aC (.int 1))) (aCall 3 m__law_pour (aCons (aVar 0) (aCons (aOp fSub (aVar 1) (aC (.int 1))) (aCons (aC (.int 8)) (aNil)))))) (aNil))) (aVar 1)) (S o9' (some (nI a))) (h3 ++ [AO.lst (F.map pairV)]) = .ok (nI b) (h4 ++ [AO.lst (F.map pairV)]) := by
          have q : (aCall 3 m__law_pour (aCons (aVar 0) (aCons (aOp fSub (aVar 1) (aC (.int 1))) (aCons (aC (.int 8)) (aNil))))) (S o9' (some (nI a))) (h3 ++ [AO.lst (F.map pairV)]) = .ok (.int u) (h4 ++ [AO.lst (F.map pairV)]) :=
            aCall_ok (xs := [.loc 3, .int ((n : Int) - 1), .int 8]) (aCons_ok rfl (aCons_ok (aOp_ok rfl rfl (fSub_i _ _ _)) (aCons_ok rfl rfl))) rfl ep4
          refine (aOp_ok (x := .int ((a : Int) + 1 + u)) (y := .int n) (aFn_ok (aCons_ok (aOp_ok (aOp_ok rfl rfl (fAdd_i _ _ _)) q (fAdd_i _ _ _)) rfl) (fnInt_i _ _)) rfl (fMod_i (by omega) _)).trans ?_
          rw [hb]
        refine ⟨S o9' o10, _, S o9' (some (nI a)), h4 ++ [AO.lst ((F ++ [(a, b)]).map pairV)], rfl, (sIf_f ec).trans (sSeq_ok (σ1 := S o9' (some (nI a))) (h1 := h3 ++ [AO.lst (F.map pairV)]) (sSet_ok (aCall_ok rfl rfl ep3)) (sExpr_ok (aM_ok rfl (isL0 l3) (aCons_ok (aTup_ok (xs := [nI a, nI b]) (aCons_ok rfl (aCons_ok eb rfl)) (by simp)) rfl) eap))), o9', some (nI a), F ++ [(a, b)], h4, rfl, rfl, ((m1.tr m2).tr m3).tr m4, by simp [lF]; omega, ei.add ⟨by show a < n; omega, hb2⟩⟩)
  exact ⟨o9, o10, E', h2, eF, m2, lE', ei'⟩
end G12

namespace G12
open PySem PySem.Spec
open PyProof.Rows hiding St
open L2 AB MG
theorem aCut_mv {m : AE} {σ : ASt} {h h1 g : AH} {v : PV} (t : Tp h) (mv : Mv h h1) (e : m σ h = .ok v (h1 ++ g)) (hv : v.low h.length = true) : aCut m σ h = .ok v h1 :=
  (aCut_ok e).trans (finC_mv t mv (frz_below hv))
theorem aCut_mvJ {m : AE} {σ : ASt} {h h1 J g : AH} {v : PV} (t : Tp h) (mv : Mv h h1) (e : m σ (h ++ J) = .ok v (h1 ++ J ++ g)) (hv : v.low (h ++ J).length = true) : aCut m σ (h ++ J) = .ok v (h1 ++ J) :=
  aCut_mv (t.app J) (mv.app J) e hv
theorem low_strs (k : Nat) (ws : List Str) : PV.lows k (ws.map .str) = true := low_all fun x hx => by obtain ⟨w, _, rfl⟩ := List.mem_map.mp hx; rfl
theorem Cn.turn {E F : List (Nat × Nat)} (s : ∀ e ∈ E, e ∈ F ∨ (e.2, e.1) ∈ F) {a b : Nat} (x : Cn E a b) : Cn F a b := by
  induction x with
  | rf => exact .rf _
  | fw _ m ih =>
    rcases s _ m with h | h
    · exact .fw ih h
    · exact .bw ih h
  | bw _ m ih =>
    rcases s _ m with h | h
    · exact .bw ih h
    · exact .fw ih h
def Tn (E : List (Nat × Nat)) (L : List (Str × Nat × Nat)) : Prop := L.length = E.length ∧ ∀ (j : Nat) (l : Str × Nat × Nat), L[j]? = some l → ∃ e, E[j]? = some e ∧ (l.2 = e ∨ l.2 = (e.2, e.1))
theorem Tn.lt {n : Nat} {E : List (Nat × Nat)} {L : List (Str × Nat × Nat)} (t : Tn E L) (h : ∀ e ∈ E, e.1 < n ∧ e.2 < n) : ∀ l ∈ L, l.2.1 < n ∧ l.2.2 < n := fun l hl => by
  obtain ⟨j, ej⟩ := List.getElem?_of_mem hl
  obtain ⟨e, ee, q⟩ := t.2 j l ej
  have := h e (List.mem_of_getElem? ee)
  rcases q with q | q
  · rw [q]; exact this
  · rw [q]; exact ⟨this.2, this.1⟩
theorem Tn.cn {E : List (Nat × Nat)} {L : List (Str × Nat × Nat)} (t : Tn E L) {a b : Nat} (x : Cn E a b) : Cn (L.map (·.2)) a b := Cn.turn (fun e he => by
  obtain ⟨j, ej⟩ := List.getElem?_of_mem he
  have hj : j < L.length := by rw [t.1]; exact (List.getElem?_eq_some_iff.mp ej).1
  obtain ⟨e', ee, q⟩ := t.2 j L[j] (List.getElem?_eq_getElem hj)
  rw [ej] at ee; cases ee
  rcases q with q | q
  · exact .inl (q ▸ List.mem_map_of_mem (List.getElem_mem hj))
  · exact .inr (q ▸ List.mem_map_of_mem (List.getElem_mem hj))) x
def sg3 (n most : Nat) (p3 o4 : Option PV) (E : List (Nat × Nat)) (k : Nat) (ws : List Str) (o6 o7 o8 o9 o10 o13 : Option PV) : ASt := [some (.loc 3), some (.int n), some (.int most), p3, o4, some (.lst (E.map pairV)), o6, o7, o8, o9, o10, some (.lst (ws.map .str)), some (.loc k), o13]
noncomputable abbrev bdN3 : AS := (sSeq (sAsg (aOp fIx (aVar 5) (aVar 7)) (gTup' 2 (gCons' (gN 10) (gCons' (gN 13) (gNil'))))) (sExpr (aM isL mAppend (aVar 12) (aCons (aIf (aB (aOp fEq (aCall 3 m__law_pour (aCons (aVar 0) (aCons (aC (.int 2)) (aCons (aC (.int 8)) (aNil))))) (aC (.int 0)))) (aTup (aCons (aOp fIx (aVar 11) (aVar 7)) (aCons (aVar 10) (aCons (aVar 13) (aNil))))) (aTup (aCons (aOp fIx (aVar 11) (aVar 7)) (aCons (aVar 13) (aCons (aVar 10) (aNil)))))) (aNil)))))
theorem netC {h : AH} (t : Tp h) {n most : Nat} {p3 o4 : Option PV} {E : List (Nat × Nat)} (lE : E.length ≤ 21) {ws : List Str} (lw : ws.length = 21) (o6 o7 o8 o9 o10 : Option PV) (J : AO) :
    ∃ (o7' o10' o13 : Option PV) (L : List (Str × Nat × Nat)) (h2 : AH), forA (itRg 0 E.length) (gN 7) bdN3 E.length 0 (sg3 n most p3 o4 E (h.length + 1) ws o6 o7 o8 o9 o10 none) (h ++ J :: [AO.lst []]) = .fin .nx (sg3 n most p3 o4 E (h.length + 1) ws o6 o7' o8 o9 o10' o13) (h2 ++ J :: [AO.lst (L.map lineV)]) ∧ Mv h h2 ∧ Tn E L := by
  let S := fun o7 o10 o13 => sg3 n most p3 o4 E (h.length + 1) ws o6 o7 o8 o9 o10 o13
  obtain ⟨σ', G, eF, o7', o10', o13, L, h2, rfl, rfl, m2, lL, tn⟩ := for_rg (g := gN 7) (b := bdN3) 0 E.length
    (fun i σ G => ∃ (o7 o10 o13 : Option PV) (L : List (Str × Nat × Nat)) (h1 : AH), σ = S o7 o10 o13 ∧ G = h1 ++ J :: [AO.lst (L.map lineV)] ∧ Mv h h1 ∧ L.length = i ∧ ∀ (j : Nat) (l : Str × Nat × Nat), L[j]? = some l → ∃ e, E[j]? = some e ∧ (l.2 = e ∨ l.2 = (e.2, e.1))) (σ := S o7 o10 none) (h := h ++ J :: [AO.lst ([].map lineV)]) ⟨o7, o10, none, [], h, rfl, rfl, t.rf, rfl, fun j l e => by simp at e⟩
    (fun i σ G hi ⟨o7, o10, o13, L, h1, e1, e2, m1, lL, tn⟩ => by
      subst e1; subst e2
      have l1 := m1.len
      have t1 := t.mv m1
      have hz : ((0 : Int) + (i : Nat)) = (i : Nat) := by omega
      rw [hz]
      let e := E[i]
      have ix : ∀ G, fIx (.lst (E.map pairV)) (.int i) G = .ok (pairV e) G := fun G => fIx_lst (atI_nat (by rw [List.getElem?_map, List.getElem?_eq_getElem hi]; rfl))
      have wl : i < ws.length := by omega
      have iw : ∀ G, fIx (.lst (ws.map .str)) (.int i) G = .ok (.str ws[i]) G := fun G => fIx_lst (atI_nat (by rw [List.getElem?_map, List.getElem?_eq_getElem wl]; rfl))
      let τ := S (some (nI i)) (some (nI e.1)) (some (nI e.2))
      obtain ⟨r, h2, ep, r0, r1, m2⟩ := pourG t1 (J :: [AO.lst (L.map lineV)]) (k := 2) (sp := 8) (by omega) (by omega) (by omega)
      have l2 : h2.length = h.length := by rw [m2.len, l1]
      have ec : (aB (aOp fEq (aCall 3 m__law_pour (aCons (aVar 0) (aCons (aC (.int 2)) (aCons (aC (.int 8)) (aNil))))) (aC (.int 0)))) τ (h1 ++ J :: [AO.lst (L.map lineV)]) = .ok (decide (r = 0)) (h2 ++ J :: [AO.lst (L.map lineV)]) := aB_ok (aOp_ok (aCall_ok rfl rfl ep) rfl (fEq_i _ _ _))
      obtain ⟨l, hl, el⟩ : ∃ l : Str × Nat × Nat, (l.2 = e ∨ l.2 = (e.2, e.1)) ∧ (aIf (aB (aOp fEq (aCall 3 m__law_pour (aCons (aVar 0) (aCons (aC (.int 2)) (aCons (aC (.int 8)) (aNil))))) (aC (.int 0)))) (aTup (aCons (aOp fIx (aVar 11) (aVar 7)) (aCons (aVar 10) (aCons (aVar 13) (aNil))))) (aTup (aCons (aOp fIx (aVar 11) (aVar 7)) (aCons (aVar 13) (aCons (aVar 10) (aNil)))))) τ (h1 ++ J :: [AO.lst (L.map lineV)]) = .ok (lineV l) (h2 ++ J :: [AO.lst (L.map lineV)]) := by
        by_cases c : r = 0
        · rw [decide_eq_true c] at ec
          exact ⟨(ws[i], e), .inl rfl, (aIf_t ec).trans (aTup_ok (aCons_ok (aOp_ok rfl rfl (iw _)) rfl) (by simp))⟩
        · rw [decide_eq_false c] at ec
          exact ⟨(ws[i], e.2, e.1), .inr rfl, (aIf_f ec).trans (aTup_ok (aCons_ok (aOp_ok rfl rfl (iw _)) rfl) (by simp))⟩
      have eap : mAppend (.loc (h.length + 1)) [lineV l] (h2 ++ J :: [AO.lst (L.map lineV)]) = .ok .non (h2 ++ J :: [AO.lst ((L ++ [l]).map lineV)]) := by
        rw [ap1 l2 (by simp; omega)]; simp
      have eb : bdN3 (S (some (nI i)) o10 o13) (h1 ++ J :: [AO.lst (L.map lineV)]) = .fin .nx τ (h2 ++ J :: [AO.lst ((L ++ [l]).map lineV)]) :=
        sSeq_ok (σ1 := τ) (h1 := h1 ++ J :: [AO.lst (L.map lineV)]) (sAsg_ok (aOp_ok rfl rfl (ix _)) rfl) (sExpr_ok (aM_ok rfl (isL1 l1) (aCons_ok el rfl) eap))
      refine ⟨_, _, _, _, rfl, eb, _, _, _, L ++ [l], h2, rfl, rfl, m1.tr m2, by simp [lL], fun j x ej => ?_⟩
      by_cases c : j < L.length
      · rw [List.getElem?_append_left c] at ej
        exact tn j x ej
      · have hj := (List.getElem?_eq_some_iff.mp ej).1
        rw [List.length_append, List.length_singleton] at hj
        have : j = i := by omega
        subst this
        rw [List.getElem?_append_right (by omega), lL, Nat.sub_self] at ej
        cases ej
        exact ⟨e, List.getElem?_eq_getElem hi, hl⟩)
  exact ⟨o7', o10', o13, L, h2, eF, m2, lL, tn⟩
def poolW : List Str := ["ash", "bay", "c1", "d", "elm", "f0", "gum", "h9h", "ivy", "jute"]
def nameW : List Str := ["k", "l1", "m2", "n", "o77", "pq", "q", "r", "s5", "t", "u", "v8", "w", "x", "y", "z0", "aa", "ab", "ac", "ad", "ae"]
theorem cut_to {α : Type} (xs : List α) (n : Nat) : cutP xs none (some (n : Int)) = xs.take n := by
  unfold cutP
  rw [HT.sIx_nat]
  show (xs.drop 0).take (min n xs.length - 0) = _
  rw [List.drop_zero, Nat.sub_zero, Nat.min_comm]
  by_cases c : n ≤ xs.length
  · rw [Nat.min_eq_right c]
  · rw [Nat.min_eq_left (by omega), List.take_of_length_le (Nat.le_refl _), List.take_of_length_le (by omega)]
theorem net {h : AH} (t : Tp h) {n most : Nat} (hn : 1 ≤ n) (hn2 : n ≤ 10) (hm : most ≤ 20) : ∃ (ns : List Str) (L : List (Str × Nat × Nat)) (h' : AH), m__law_net [.loc 3, .int n, .int most] h = .ok (netV ns L) h' ∧ Net ns L ∧ ns.length = n ∧ L.length ≤ max most n ∧ Mv h h' := by
  unfold m__law_net b__law_net
  have h4 : 4 ≤ h.length := t.le
  let σ0 : ASt := [some (.loc 3), some (.int n), some (.int most), none, none, none, none, none, none, none, none, none, none, none]
  -- pool
  obtain ⟨ps', f1, ep, pp, m1⟩ := mix (t.app [AO.lst (poolW.map .str)]) (n := h.length) h4 (xs := poolW.map .str) (getLast_app _ _) (by decide) (low_strs _ _)
  obtain ⟨ha, rfl, ma⟩ := t.split m1
  obtain ⟨ps, rfl, pps⟩ := perm_inv (f := PV.str) (g := fun x => match x with | .str w => w | _ => "") (fun x => rfl) pp
  have lps : ps.length = 10 := pps.length_eq
  have ta := t.mv ma
  have la := ma.len
  let p3 : PV := .lst (ps.map .str)
  -- order
  obtain ⟨os', f2, eo, po, m2⟩ := mix (ta.app [AO.lst ((List.range n).map nI)]) (n := ha.length) (by omega) (xs := (List.range n).map nI) (getLast_app _ _) (by simp; omega) (low_nI _ _)
  obtain ⟨hb, rfl, mb⟩ := ta.split m2
  obtain ⟨os, rfl, pm⟩ := perm_inv (f := nI) (g := fun x => match x with | .int k => k.toNat | _ => 0) (fun x => rfl) po
  have tb := ta.mv mb
  have lb := mb.len
  -- ring
  obtain ⟨r, hc, er, r0, r1, mc⟩ := pourG tb [AO.lst []] (k := 3) (sp := 0) (by omega) (by omega) (by omega)
  let ring := decide (r = 0)
  obtain ⟨o7, E1, hd, eF1, md, lE1, ei1⟩ := netA tb (most := most) (p3 := p3) pm hn hn2 ring mc
  have td := tb.mv md
  have ld := md.len
  -- one more line of the ring
  let S1 := sgN n most p3 os hb.length (some (.bl ring)) o7 none none none none none none
  obtain ⟨E2, eI, lE2, lE2', ei2⟩ : ∃ E2 : List (Nat × Nat), (sIf (tAnd (aTr (aVar 6)) (aB (aOp fGt (aVar 1) (aC (.int 1))))) (sExpr (aM isL mAppend (aVar 5) (aCons (aTup (aCons (aOp fIx (aVar 4) (aC (.int 0))) (aCons (aOp fIx (aVar 4) (aUn fNeg (aC (.int 1)))) (aNil)))) (aNil)))) (sNext)) S1 (hd ++ [AO.lst (E1.map pairV)]) = .fin .nx S1 (hd ++ [AO.lst (E2.map pairV)]) ∧ E2.length ≤ n ∧ n - 1 ≤ E2.length ∧ EI n os E2 (n - 1) := by
    have lo := os_len pm
    have c1 : (aTr (aVar 6)) S1 (hd ++ [AO.lst (E1.map pairV)]) = .ok ring (hd ++ [AO.lst (E1.map pairV)]) := aTr_ok rfl
    have c2 : (aB (aOp fGt (aVar 1) (aC (.int 1)))) S1 (hd ++ [AO.lst (E1.map pairV)]) = .ok (decide ((1 : Int) < n)) (hd ++ [AO.lst (E1.map pairV)]) := aB_ok (aOp_ok rfl rfl (fGt_i _ _ _))
    cases d : ring with
    | false =>
      rw [d] at c1
      exact ⟨E1, (sIf_f (tAnd_f c1)).trans rfl, by omega, by omega, ei1⟩
    | true =>
      rw [d] at c1
      by_cases c : (1 : Int) < n
      · rw [decide_eq_true c] at c2
        let e : Nat × Nat := (os.getD 0 0, os.getD (n - 1) 0)
        have eneg : (aUn fNeg (aC (.int 1))) S1 (hd ++ [AO.lst (E1.map pairV)]) = .ok (.int (-1)) (hd ++ [AO.lst (E1.map pairV)]) := rfl
        have eix : ∀ G, fIx (.lst (os.map nI)) (.int (-1)) G = .ok (nI (os.getD (n - 1) 0)) G := fun G => fIx_lst (by
          rcases List.eq_nil_or_concat os with c0 | ⟨g, x, c0⟩
          · rw [c0] at lo; simp at lo; omega
          · rw [List.concat_eq_append] at c0
            rw [c0, List.length_append, List.length_singleton] at lo
            rw [c0, List.map_append, List.map_singleton, atI_last, List.getD_eq_getElem?_getD, List.getElem?_append_right (by omega), show n - 1 - g.length = 0 by omega]; rfl)
        have eap : mAppend (.loc hb.length) [pairV e] (hd ++ [AO.lst (E1.map pairV)]) = .ok .non (hd ++ [AO.lst ((E1 ++ [e]).map pairV)]) := by
          rw [ap0 ld (by simp; omega)]; simp
        refine ⟨E1 ++ [e], (sIf_t ((tAnd_t c1).trans c2)).trans (sExpr_ok (aM_ok rfl (isL0 ld) (aCons_ok (aTup_ok (xs := [nI e.1, nI e.2]) (aCons_ok (aOp_ok rfl rfl (os_ix pm (i := 0) (by omega) _)) (aCons_ok (aOp_ok rfl eneg (eix _)) rfl)) (by simp)) rfl) eap)), by simp; omega, by simp; omega, ei1.add ⟨os_lt pm (by omega), os_lt pm (by omega)⟩⟩
      · rw [decide_eq_false c] at c2
        exact ⟨E1, (sIf_f ((tAnd_t c1).trans c2)).trans rfl, by omega, by omega, ei1⟩
  -- more
  have eln2 : ∀ {hx : AH} (q : hx.length = hb.length) (F : List (Nat × Nat)), fnLen [.loc hb.length] (hx ++ [AO.lst (F.map pairV)]) = .ok (.int F.length) (hx ++ [AO.lst (F.map pairV)]) := fun q F => by rw [len0 q, List.length_map]
  obtain ⟨more, he, hmr, e8, me⟩ : ∃ (more : Nat) (he : AH), (E2.length + more ≤ max most n ∧ (more ≠ 0 → 2 ≤ n)) ∧ (aIf (aB (aOp fGt (aVar 1) (aC (.int 1)))) (aCall 3 m__law_pour (aCons (aVar 0) (aCons (aOp fAdd (aFn fnMax (aCons (aC (.int 0)) (aCons (aOp fSub (aVar 2) (aFn fnLen (aCons (aVar 5) (aNil)))) (aNil)))) (aC (.int 1))) (aCons (aC (.int 2)) (aNil))))) (aC (.int 0))) S1 (hd ++ [AO.lst (E2.map pairV)]) = .ok (.int more) (he ++ [AO.lst (E2.map pairV)]) ∧ Mv hd he := by
    have c2 : (aB (aOp fGt (aVar 1) (aC (.int 1)))) S1 (hd ++ [AO.lst (E2.map pairV)]) = .ok (decide ((1 : Int) < n)) (hd ++ [AO.lst (E2.map pairV)]) := aB_ok (aOp_ok rfl rfl (fGt_i _ _ _))
    by_cases c : (1 : Int) < n
    · rw [decide_eq_true c] at c2
      let w : Int := (most : Int) - E2.length
      let mx : Int := if w > 0 then w else 0
      have hmx : 0 ≤ mx ∧ mx + E2.length ≤ ((max most n : Nat) : Int) := by
        show 0 ≤ (if w > 0 then w else 0) ∧ (if w > 0 then w else 0) + (E2.length : Int) ≤ ((max most n : Nat) : Int)
        have : w = (most : Int) - E2.length := rfl
        split <;> omega
      obtain ⟨u, he, eu, u0, u1, me⟩ := pourG td [AO.lst (E2.map pairV)] (k := mx + 1) (sp := 2) (by omega) (by omega) (by omega)
      obtain ⟨q, rfl⟩ : ∃ q : Nat, u = q := ⟨u.toNat, by omega⟩
      have ek : (aOp fAdd (aFn fnMax (aCons (aC (.int 0)) (aCons (aOp fSub (aVar 2) (aFn fnLen (aCons (aVar 5) (aNil)))) (aNil)))) (aC (.int 1))) S1 (hd ++ [AO.lst (E2.map pairV)]) = .ok (.int (mx + 1)) (hd ++ [AO.lst (E2.map pairV)]) :=
        aOp_ok (x := .int mx) (aFn_ok (xs := [.int 0, .int w]) (aCons_ok rfl (aCons_ok (aOp_ok rfl (aFn_ok rfl (eln2 ld E2)) (fSub_i _ _ _)) rfl)) rfl) rfl (fAdd_i _ _ _)
      exact ⟨q, he, ⟨by omega, fun _ => by omega⟩, (aIf_t c2).trans (aCall_ok (aCons_ok rfl (aCons_ok ek (aCons_ok rfl rfl))) rfl eu), me⟩
    · rw [decide_eq_false c] at c2
      exact ⟨0, hd, ⟨by omega, fun h => absurd rfl h⟩, (aIf_f c2).trans rfl, td.rf⟩
  have mbe := md.tr me
  obtain ⟨o9, o10, E3, hf, eF2, mf, lE3, ei3⟩ : ∃ (o9 o10 : Option PV) (E3 : List (Nat × Nat)) (hf : AH), forA (itRg 0 more) (gN 9) bdN2 more 0 (sgN n most p3 os hb.length (some (.bl ring)) o7 (some (.int more)) none none none none none) (he ++ [AO.lst (E2.map pairV)]) = .fin .nx (sgN n most p3 os hb.length (some (.bl ring)) o7 (some (.int more)) o9 o10 none none none) (hf ++ [AO.lst (E3.map pairV)]) ∧ Mv hb hf ∧ E3.length ≤ max most n ∧ EI n os E3 (n - 1) := by
    by_cases c : more = 0
    · subst c
      have te := tb.mv mbe
      refine ⟨none, none, E2, he, ?_, mbe, by omega, ei2⟩
      unfold forA
      rfl
    · obtain ⟨o9, o10, E3, hf, a, b, c1, d⟩ := netB tb (most := most) (more := more) (p3 := p3) (os := os) (hmr.2 c) hn2 (some (.bl ring)) o7 (by omega) mbe (E := E2) (by have := hmr.2 c; omega) (by omega) ei2
      exact ⟨o9, o10, E3, hf, a, b, by omega, d⟩
  have tf := tb.mv mf
  have lf := mf.len
  -- names
  let S2 := sgN n most p3 os hb.length (some (.bl ring)) o7 (some (.int more)) o9 o10 none none none
  obtain ⟨ws', f3, ew, pw, m3⟩ := mix ((tf.app [AO.lst (E3.map pairV)]).app [AO.lst (nameW.map .str)]) (n := (hf ++ [AO.lst (E3.map pairV)]).length) (by simp; omega) (xs := nameW.map .str) (getLast_app _ _) (by decide) (low_strs _ _)
  obtain ⟨f4, rfl, m4⟩ := (tf.app [AO.lst (E3.map pairV)]).split m3
  obtain ⟨hg, rfl, mg⟩ := tf.split m4
  obtain ⟨ws, rfl, pws⟩ := perm_inv (f := PV.str) (g := fun x => match x with | .str w => w | _ => "") (fun x => rfl) pw
  have lws : ws.length = 21 := pws.length_eq
  have tg := tf.mv mg
  have lg : hg.length = hb.length := by rw [mg.len, lf]
  -- pairs
  obtain ⟨es', f5, ee, pe, m5⟩ := mix (tg.app [AO.lst (E3.map pairV)]) (n := hb.length) (by omega) (xs := E3.map pairV) (by rw [← lg]; exact getLast_app _ _) (by simp; omega) (low_pairs _ _)
  obtain ⟨hk, rfl, mk⟩ := tg.split m5
  obtain ⟨E, rfl, pE⟩ := perm_inv (f := pairV) (g := unP) unP_pair pe
  have tk' := tg.mv mk
  have lk : hk.length = hb.length := by rw [mk.len, lg]
  have lE : E.length = E3.length := pE.length_eq
  obtain ⟨o7', o10', o13, L, hl, eF3, ml, tn⟩ := netC tk' (n := n) (most := most) (p3 := some p3) (o4 := some (.lst (os.map nI))) (E := E) (by omega) lws (some (.bl ring)) o7 (some (.int more)) o9 o10 (AO.lst (E3.map pairV))
  have ll : hl.length = hb.length := by rw [ml.len, lk]
  have mT : Mv h hl := ((((ma.tr mb).tr mf).tr mg).tr mk).tr ml
  let ns := ps.take n
  have lns : ns.length = n := by simp [ns]; omega
  have hlt : ∀ l ∈ L, l.2.1 < n ∧ l.2.2 < n := tn.lt fun e he => ei3.lt e (pE.mem_iff.mp he)
  refine ⟨ns, L, hl, ?_, ⟨by omega, by rw [lns]; exact hlt, fun p hp => ?_, by omega, by rw [tn.1]; omega⟩, lns, by rw [tn.1]; omega, mT⟩
  · let S3 := sg3 n most (some p3) (some (.lst (os.map nI))) E (hk.length + 1) ws (some (.bl ring)) o7' (some (.int more)) o9 o10' o13
    let G3 : AH := hl ++ AO.lst (E3.map pairV) :: [AO.lst (L.map lineV)]
    have eV : (aTup (aCons (aFn fnTuple (aCons (aSl (aVar 3) (aNoP) (aSoP (aVar 1))) (aNil))) (aCons (aFn fnTuple (aCons (aVar 12) (aNil))) (aNil)))) S3 G3 = .ok (netV ns L) (G3 ++ [AO.lst (ns.map .str)]) := by
      have e1 : (aSl (aVar 3) (aNoP) (aSoP (aVar 1))) S3 G3 = .ok (.loc G3.length) (G3 ++ [AO.lst (ns.map .str)]) := by
        show Res.ok (PV.loc G3.length) (G3 ++ [AO.lst (cutP (ps.map .str) none (some (n : Int)))]) = _
        rw [cut_to, ← List.map_take]
      refine aTup_ok (xs := [.tup (ns.map .str), .tup (L.map lineV)]) (aCons_ok (aFn_ok (aCons_ok (l := aNil) e1 rfl) (fnTuple_s (seqOf_loc (getLast_app _ _)))) (aCons_ok (aFn_ok rfl (fnTuple_s (seqOf_loc ?_))) rfl)) (by simp)
      rw [List.append_assoc]
      exact g1 (by rw [ll, lk])
    refine (mDef_rt (σ := S3) (h1 := G3 ++ [AO.lst (ns.map .str)]) (v := netV ns L) ?_).trans ?_
    · refine sSeq_ok (σ1 := [some (.loc 3), some (.int n), some (.int most), some p3, none, none, none, none, none, none, none, none, none, none]) (h1 := ha) (sSet_ok (aCut_mv t ma (aCall_ok (aCons_ok rfl (aCons_ok (aLst_ok (xs := poolW.map .str) rfl (by decide)) rfl)) rfl ep) (low_strs _ _))) ?_
      refine sSeq_ok (σ1 := [some (.loc 3), some (.int n), some (.int most), some p3, some (.lst (os.map nI)), none, none, none, none, none, none, none, none, none]) (h1 := hb) (sSet_ok (aCut_mv ta mb (aCall_ok (aCons_ok rfl (aCons_ok (aLstRg1_ok (n := n) rfl (by omega)) rfl)) rfl eo) (low_nI _ _))) ?_
      refine sSeq_ok (σ1 := sgN n most p3 os hb.length none none none none none none none none) (h1 := hb ++ [AO.lst []]) (sSet_ok (aLst_ok rfl (by simp))) ?_
      refine sSeq_ok (σ1 := sgN n most p3 os hb.length (some (.bl ring)) none none none none none none none) (h1 := hc ++ [AO.lst []]) (sSet_ok (aOp_ok (aCall_ok rfl rfl er) rfl (fEq_i _ _ _))) ?_
      refine sSeq_ok (sFor_ok (aItR2_ok (i := 1) (j := n) rfl (by omega) (by omega) (by omega) (by omega)) ((show _ = _ by rw [show ((n : Int) - 1).toNat = n - 1 by omega]; rfl).trans eF1)) ?_
      refine sSeq_ok eI ?_
      refine sSeq_ok (σ1 := sgN n most p3 os hb.length (some (.bl ring)) o7 (some (.int more)) none none none none none) (h1 := he ++ [AO.lst (E2.map pairV)]) (sSet_ok e8) ?_
      refine sSeq_ok (sFor_ok (aItR1_ok (j := more) rfl (by omega) (by omega)) eF2) ?_
      refine sSeq_ok (σ1 := sgN n most p3 os hb.length (some (.bl ring)) o7 (some (.int more)) o9 o10 (some (.lst (ws.map .str))) none none) (h1 := hg ++ [AO.lst (E3.map pairV)]) (sSet_ok (aCut_mvJ tf mg (aCall_ok (aCons_ok rfl (aCons_ok (aLst_ok (xs := nameW.map .str) rfl (by decide)) rfl)) rfl ew) (low_strs _ _))) ?_
      refine sSeq_ok (σ1 := [some (.loc 3), some (.int n), some (.int most), some p3, some (.lst (os.map nI)), some (.lst (E.map pairV)), some (.bl ring), o7, some (.int more), o9, o10, some (.lst (ws.map .str)), none, none]) (h1 := hk ++ [AO.lst (E3.map pairV)]) (sSet_ok (aCall_ok rfl rfl ee)) ?_
      refine sSeq_ok (σ1 := sg3 n most (some p3) (some (.lst (os.map nI))) E (hk.length + 1) ws (some (.bl ring)) o7 (some (.int more)) o9 o10 none) (h1 := hk ++ AO.lst (E3.map pairV) :: [AO.lst []]) ?_ ?_
      · refine (sSet_ok (aLst_ok (xs := []) rfl (by simp))).trans ?_
        rw [snoc_app, List.length_append]; rfl
      have eln : (aFn fnLen (aCons (aVar 5) (aNil))) (sg3 n most (some p3) (some (.lst (os.map nI))) E (hk.length + 1) ws (some (.bl ring)) o7 (some (.int more)) o9 o10 none) (hk ++ AO.lst (E3.map pairV) :: [AO.lst []]) = .ok (.int E.length) (hk ++ AO.lst (E3.map pairV) :: [AO.lst []]) :=
        aFn_ok rfl (by rw [fnLen_seq (seqOf_lst _ _), List.length_map])
      refine sSeq_ok (sFor_ok (aItR1_ok (j := E.length) (aCons_ok (l := aNil) eln rfl) (by omega) (by omega)) eF3) ?_
      exact sRet_ok eV
    · rw [List.append_assoc]
      exact finC_mv t mT (frz_below (low_net _ _ _))
  · have hp : p < n := by omega
    have has : ∀ p, p < n → Cn (L.map (·.2)) (os.getD 0 0) p := fun p hp => by
      have hm := pm.mem_iff.mpr (List.mem_range.mpr hp)
      obtain ⟨j, ej⟩ := List.getElem?_of_mem hm
      have jl := (List.getElem?_eq_some_iff.mp ej).1
      have lo := os_len pm
      have e : os.getD j 0 = p := by rw [List.getD_eq_getElem?_getD, ej]; rfl
      have := ei3.cn j (by omega)
      rw [e] at this
      exact tn.cn (this.mono fun x hx => pE.mem_iff.mpr hx)
    exact (has 0 (by omega)).sm.tr (has p hp)
end G12

namespace G12
open PySem PySem.Spec
open PyProof.Rows hiding St
open L2 AB MG
variable [Errs]
def edg (L : List (Str × Nat × Nat)) (k : Nat) : Nat × Nat := (L.getD k ("", 0, 0)).2
theorem netV_low (ns : List Str) (L : List (Str × Nat × Nat)) (k : Nat) : (netV ns L).low k = true := by
  simp only [netV, PV.low, PV.lows, Bool.true_and, Bool.and_true, Bool.and_eq_true]
  exact ⟨low_all fun x hx => by obtain ⟨l, _, rfl⟩ := List.mem_map.mp hx; rfl, low_all fun x hx => by obtain ⟨l, _, rfl⟩ := List.mem_map.mp hx; rfl⟩
theorem net_1 (ns : List Str) (L : List (Str × Nat × Nat)) (h : AH) : fIx (netV ns L) (.int 1) h = .ok (.tup (L.map lineV)) h := fIx_tup rfl
theorem net_0 (ns : List Str) (L : List (Str × Nat × Nat)) (h : AH) : fIx (netV ns L) (.int 0) h = .ok (.tup (ns.map .str)) h := fIx_tup rfl
theorem net_k {L : List (Str × Nat × Nat)} {k : Nat} (hk : k < L.length) (h : AH) : fIx (.tup (L.map lineV)) (.int k) h = .ok (.tup [.str (L.getD k ("", 0, 0)).1, .int (edg L k).1, .int (edg L k).2]) h :=
  fIx_tup (atI_nat (by rw [List.getElem?_map, List.getElem?_eq_getElem hk]; simp [edg, lineV, hk]))
theorem ends_of {ns : List Str} {L : List (Str × Nat × Nat)} {k : Nat} (hk : k < L.length) (h : AH) : m_ends_of [netV ns L, .int k] h = .ok (.tup [.int (edg L k).1, .int (edg L k).2]) h := by
  unfold m_ends_of b_ends_of
  refine (mDef_rt (σ := [some (netV ns L), some (.int k)]) (h1 := h) (v := .tup [.int (edg L k).1, .int (edg L k).2]) ?_).trans (finC_same rfl)
  refine sRet_ok ?_
  have e1 : (aOp fIx (aOp fIx (aVar 0) (aC (.int 1))) (aVar 1)) [some (netV ns L), some (.int k)] h = .ok (.tup [.str (L.getD k ("", 0, 0)).1, .int (edg L k).1, .int (edg L k).2]) h := aOp_ok (aOp_ok rfl rfl (net_1 _ _ _)) rfl (net_k hk h)
  show (aSl _ _ _) [some (netV ns L), some (.int k)] h = _
  rw [aSl_eq, e1]
  rfl
def mrg (a b : Nat) (s : Nat) : Nat := if s = b then a else s
theorem merged {h : AH} {k : Nat} {hs : List Nat} {a b : Nat} (e : h[k]? = some (.lst (hs.map nI))) (ha : a < hs.length) (hb : b < hs.length) (hz : hs.length ≤ 1000) : m_merged [.loc k, .int a, .int b] h = .ok (.bl (!decide (hs.getD a 0 = hs.getD b 0))) (h.set k (.lst ((mergeF hs a b).map nI))) := by
  unfold m_merged b_merged
  have hk := (List.getElem?_eq_some_iff.mp e).1
  have ga : hs[a]? = some (hs.getD a 0) := by simp [ha]
  have gb : hs[b]? = some (hs.getD b 0) := by simp [hb]
  have fa : fIx (.loc k) (.int a) h = .ok (.int (hs.getD a 0 : Nat)) h := fIx_loc e (nI_get ga)
  have fb : fIx (.loc k) (.int b) h = .ok (.int (hs.getD b 0 : Nat)) h := fIx_loc e (nI_get gb)
  generalize hx : hs.getD a 0 = x at *
  generalize hy : hs.getD b 0 = y at *
  let σ : ASt := [some (.loc k), some (.int a), some (.int b), some (.int x), some (.int y), none, none]
  have s1 : ∀ (r : AS), (sSeq (sSet 3 (aOp fIx (aVar 0) (aVar 1))) (sSeq (sSet 4 (aOp fIx (aVar 0) (aVar 2))) r)) (startA 7 [.loc k, .int a, .int b]) h = r σ h := fun r =>
    sSeq_ok (sSet_ok (aOp_ok rfl rfl fa)) (sSeq_ok (sSet_ok (aOp_ok rfl rfl fb)) rfl)
  have fin : ∀ (hs' : List Nat) (g : AH) (t : Bool), finC h.length h (h.set k (.lst (hs'.map nI)) ++ g) (.bl t) = .ok (.bl t) (h.set k (.lst (hs'.map nI))) := fun hs' g t => by
    rw [finC_ok (v' := .bl t) (fun n hn => ?_) rfl]
    · congr 1
      rw [List.take_append_of_le_length (by simp), List.take_of_length_le (by simp)]
    · rw [List.getElem?_append_left (by simpa using hn), List.getElem?_set]
      by_cases c : k = n
      · subst c; rw [if_pos rfl, if_pos hk]; exact .inr ⟨_, rfl, low_nI _ _⟩
      · rw [if_neg c]; exact .inl rfl
  by_cases c : x = y
  · have em : mergeF hs a b = hs := by unfold mergeF; rw [if_pos (by rw [hx, hy]; exact c)]
    have eh : h.set k (.lst (hs.map nI)) = h := by
      obtain ⟨l, e'⟩ := List.getElem?_eq_some_iff.mp e
      rw [← e']; simp
    have f := fin hs [] false
    rw [List.append_nil, eh] at f
    rw [show (!decide (x = y)) = false by simp [c], em, eh]
    refine (mDef_rt (σ := σ) (h1 := h) (v := .bl false) ?_).trans f
    rw [s1, sSeq_rt]
    rw [sIf_t (h1 := h) (aB_ok (b := true) (aOp_ok rfl rfl (by rw [fEq_i]; simp [c])))]
    rfl
  · have em : mergeF hs a b = hs.map (mrg x y) := by unfold mergeF mrg; rw [if_neg (by rw [hx, hy]; exact c), hx, hy]
    rw [show (!decide (x = y)) = true by simp [c], em]
    have loop := for_live (g := gTup' 2 (gCons' (gN 5) (gCons' (gN 6) (gNil')))) (b := sIf (aB (aOp fEq (aVar 6) (aVar 4))) (sAsg (aVar 3) (gSubL (aVar 0) (aVar 5))) (sNext)) h.length (enP 0 (hs.map nI))
      (fun i σ' g => ∃ (o5 o6 : Option PV) (cur : List Nat), σ' = [some (.loc k), some (.int a), some (.int b), some (.int x), some (.int y), o5, o6] ∧ g = h.set k (.lst (cur.map nI)) ++ [.lst (enP 0 (hs.map nI))] ∧ ∀ j, cur[j]? = (hs[j]?).map fun s => if j < i then mrg x y s else s)
      (σ := σ) (h := h ++ [.lst (enP 0 (hs.map nI))]) ⟨none, none, hs, rfl, by
        obtain ⟨l, e'⟩ := List.getElem?_eq_some_iff.mp e
        rw [← e']; simp, fun j => by simp⟩
      (fun i σ' g ⟨o5, o6, cur, e1, e2, _⟩ => by rw [e2, List.getElem?_append_right (by simp)]; simp)
      (fun i v σ' g ev ⟨o5, o6, cur, e1, e2, hc⟩ => by
        subst e1; subst e2
        have il : i < hs.length := by have := (List.getElem?_eq_some_iff.mp ev).1; rw [enP_len] at this; simpa using this
        have gi : hs[i]? = some hs[i] := List.getElem?_eq_getElem il
        have e3 := enP_get 0 (hs.map nI) i (nI hs[i]) (by rw [List.getElem?_map, gi]; rfl)
        rw [e3] at ev
        cases ev
        have cl : cur.length = hs.length := by
          have h1 := hc hs.length
          rw [List.getElem?_eq_none (Nat.le_refl hs.length)] at h1
          have h2 : cur.length ≤ hs.length := List.getElem?_eq_none_iff.mp h1
          rcases Nat.lt_or_ge cur.length hs.length with q | q
          · have h3 := hc cur.length
            rw [List.getElem?_eq_none (Nat.le_refl _), List.getElem?_eq_getElem q] at h3
            cases h3
          · omega
        have ek : (h.set k (.lst (cur.map nI)) ++ [AO.lst (enP 0 (hs.map nI))])[k]? = some (.lst (cur.map nI)) := by
          rw [List.getElem?_append_left (by simpa using hk), List.getElem?_set]; simp [hk]
        refine ⟨[some (.loc k), some (.int a), some (.int b), some (.int x), some (.int y), some (.int ((0 + i : Nat) : Int)), some (.int hs[i])], h.set k (.lst (cur.map nI)) ++ [.lst (enP 0 (hs.map nI))], ?_⟩
        by_cases d : hs[i] = y
        · refine ⟨[some (.loc k), some (.int a), some (.int b), some (.int x), some (.int y), some (.int ((0 + i : Nat) : Int)), some (.int hs[i])], h.set k (.lst ((cur.set i x).map nI)) ++ [.lst (enP 0 (hs.map nI))], rfl, ?_, some (.int ((0 + i : Nat) : Int)), some (.int hs[i]), cur.set i x, rfl, rfl, fun j => ?_⟩
          · rw [sIf_t (h1 := h.set k (.lst (cur.map nI)) ++ [.lst (enP 0 (hs.map nI))]) (aB_ok (b := true) (aOp_ok rfl rfl (by rw [fEq_i]; simp [d])))]
            refine sAsg_ok rfl ?_
            rw [gSubL_ok (n := k) (k := ((0 + i : Nat) : Int)) (xs := cur.map nI) rfl rfl ek (by omega) (by simp; omega), set_app (by simpa using hk), List.set_set]
            congr 5
            rw [List.map_set]
            congr 1; omega
          · rw [List.getElem?_set]
            by_cases q : i = j
            · subst q
              rw [if_pos rfl, if_pos (by omega), gi]
              simp [mrg, d]
            · rw [if_neg q, hc j]
              congr 1; funext s
              by_cases w : j < i
              · rw [if_pos w, if_pos (by omega)]
              · rw [if_neg w, if_neg (by omega)]
        · refine ⟨[some (.loc k), some (.int a), some (.int b), some (.int x), some (.int y), some (.int ((0 + i : Nat) : Int)), some (.int hs[i])], h.set k (.lst (cur.map nI)) ++ [.lst (enP 0 (hs.map nI))], rfl, ?_, some (.int ((0 + i : Nat) : Int)), some (.int hs[i]), cur, rfl, rfl, fun j => ?_⟩
          · rw [sIf_f (h1 := h.set k (.lst (cur.map nI)) ++ [.lst (enP 0 (hs.map nI))]) (aB_ok (b := false) (aOp_ok rfl rfl (by rw [fEq_i]; simp; omega)))]
            rfl
          · rw [hc j]
            by_cases q : i = j
            · subst q
              rw [gi]
              simp [mrg, d]
            · congr 1; funext s
              by_cases w : j < i
              · rw [if_pos w, if_pos (by omega)]
              · rw [if_neg w, if_neg (by omega)])
    obtain ⟨σ', g, eF, o5, o6, cur, rfl, rfl, hc⟩ := loop
    have ec : cur = hs.map (mrg x y) := List.ext_getElem? fun j => by
      rw [hc j, List.getElem?_map, enP_len]
      by_cases q : j < hs.length
      · rw [List.getElem?_eq_getElem q]; simp [q]
      · rw [List.getElem?_eq_none (by omega)]; rfl
    subst ec
    refine (mDef_rt (σ := [some (.loc k), some (.int a), some (.int b), some (.int x), some (.int y), o5, o6]) (h1 := h.set k (.lst ((hs.map (mrg x y)).map nI)) ++ [.lst (enP 0 (hs.map nI))]) (v := .bl true) ?_).trans (fin _ _ _)
    rw [s1]
    refine sSeq_ok (σ1 := σ) (h1 := h) ?_ ?_
    · rw [sIf_f (h1 := h) (aB_ok (b := false) (aOp_ok rfl rfl (by rw [fEq_i]; simp; omega)))]; rfl
    have eS : aItS (aLstEn (aVar 0)) σ h = .ok (itLive (.loc h.length) (enP 0 (hs.map nI)).length) (h ++ [.lst (enP 0 (hs.map nI))]) := by
      have q1 : aLstEn (aVar 0) σ h = .ok (.loc h.length) (h ++ [.lst (enP 0 (hs.map nI))]) := by
        unfold aLstEn
        show (match lstOf (.loc k) h with | some xs => new (.lst (enP 0 xs)) h | none => .stuck) = _
        rw [lstOf_loc e]; rfl
      unfold aItS
      rw [q1, Res.bind_ok]
      show AB.itL (.loc h.length) _ = _
      unfold AB.itL
      rw [lstOf_loc (getLast_app _ _)]
    refine sSeq_ok (sFor_ok eS eF) rfl
end G12

namespace G12
open PySem PySem.Spec
open PyProof.Rows hiding St
open L2 AB MG
variable [Errs]
def LtN (n : Nat) (L : List (Str × Nat × Nat)) : Prop := ∀ l ∈ L, l.2.1 < n ∧ l.2.2 < n
theorem edg_mem {L : List (Str × Nat × Nat)} {k : Nat} (hk : k < L.length) : edg L k ∈ L.map (·.2) := by
  unfold edg
  rw [List.getD_eq_getElem?_getD, List.getElem?_eq_getElem hk]
  exact List.mem_map.mpr ⟨_, List.getElem_mem hk, rfl⟩
theorem edg_lt {n : Nat} {L : List (Str × Nat × Nat)} (lt : LtN n L) {k : Nat} (hk : k < L.length) : (edg L k).1 < n ∧ (edg L k).2 < n := by
  obtain ⟨l, hl, e⟩ := List.mem_map.mp (edg_mem hk)
  rw [← e]; exact lt l hl
theorem edgs_lt {n : Nat} {L : List (Str × Nat × Nat)} (lt : LtN n L) {ks : List Nat} (hk : ∀ k ∈ ks, k < L.length) : ∀ e ∈ ks.map (edg L), e.1 < n ∧ e.2 < n := fun e he => by
  obtain ⟨k, hk', rfl⟩ := List.mem_map.mp he
  exact edg_lt lt (hk k hk')
theorem fold_len (F : List (Nat × Nat)) : ∀ hs : List Nat, (F.foldl (fun hs e => mergeF hs e.1 e.2) hs).length = hs.length := by
  induction F with
  | nil => intro _; rfl
  | cons e F ih => intro hs; rw [List.foldl_cons, ih, mergeF_len]
theorem homesF_len (n : Nat) (E : List (Nat × Nat)) : (homesF n E).length = n := by unfold homesF; rw [fold_len]; simp
theorem low_tupn (k : Nat) (ks : List Nat) : (PV.tup (ks.map nI)).low k = true := low_nI _ _
theorem lenT {xs : List PV} {n : Nat} (hn : xs.length = n) (h : AH) : fnLen [.tup xs] h = .ok (.int n) h := by rw [fnLen_seq (seqOf_tup _ _), hn]
theorem homes_by {ns : List Str} {L : List (Str × Nat × Nat)} (lt : LtN ns.length L) (n10 : ns.length ≤ 10) {ks : List Nat} (hk : ∀ k ∈ ks, k < L.length) (h : AH) :
    m_homes_by [netV ns L, .tup (ks.map nI)] h = .ok (.loc h.length) (h ++ [.lst ((homesF ns.length (ks.map (edg L))).map nI)]) := by
  unfold m_homes_by b_homes_by
  have loop := for_vals (g := gN 3) (b := sSeq (sAsg (aCall 2 m_ends_of (aCons (aVar 0) (aCons (aVar 3) (aNil)))) (gTup' 2 (gCons' (gN 4) (gCons' (gN 5) (gNil'))))) (sExpr (aCall 3 m_merged (aCons (aVar 2) (aCons (aVar 4) (aCons (aVar 5) (aNil))))))) (ks.map nI)
    (fun i σ g => ∃ o3 o4 o5 : Option PV, σ = [some (netV ns L), some (.tup (ks.map nI)), some (.loc h.length), o3, o4, o5] ∧ g = h ++ [.lst ((((ks.take i).map (edg L)).foldl (fun hs e => mergeF hs e.1 e.2) (List.range ns.length)).map nI)])
    (σ := [some (netV ns L), some (.tup (ks.map nI)), some (.loc h.length), none, none, none]) (h := h ++ [.lst ((List.range ns.length).map nI)]) ⟨none, none, none, rfl, by simp⟩
    (fun i x σ g ex ⟨o3, o4, o5, e1, e2⟩ => by
      subst e1; subst e2
      obtain ⟨k, hk1, rfl⟩ : ∃ k, ks[i]? = some k ∧ x = nI k := by
        rw [List.getElem?_map] at ex
        cases c : ks[i]? with
        | none => rw [c] at ex; cases ex
        | some k => rw [c] at ex; cases ex; exact ⟨k, rfl, rfl⟩
      have kl := hk k (List.mem_of_getElem? hk1)
      obtain ⟨ea, eb⟩ := edg_lt lt kl
      generalize hcur : ((ks.take i).map (edg L)).foldl (fun hs e => mergeF hs e.1 e.2) (List.range ns.length) = cur
      have cl : cur.length = ns.length := by rw [← hcur, fold_len]; simp
      have em := merged (h := h ++ [.lst (cur.map nI)]) (k := h.length) (hs := cur) (a := (edg L k).1) (b := (edg L k).2) (getLast_app _ _) (by omega) (by omega) (by omega)
      rw [set_last] at em
      have et : ((ks.take (i + 1)).map (edg L)).foldl (fun hs e => mergeF hs e.1 e.2) (List.range ns.length) = mergeF cur (edg L k).1 (edg L k).2 := by
        rw [List.take_add_one, hk1, List.map_append, List.foldl_append, hcur]; rfl
      refine ⟨[some (netV ns L), some (.tup (ks.map nI)), some (.loc h.length), some (nI k), o4, o5], h ++ [.lst (cur.map nI)], [some (netV ns L), some (.tup (ks.map nI)), some (.loc h.length), some (nI k), some (.int (edg L k).1), some (.int (edg L k).2)], h ++ [.lst ((mergeF cur (edg L k).1 (edg L k).2).map nI)], rfl, ?_, some (nI k), some (.int (edg L k).1), some (.int (edg L k).2), rfl, by rw [et]⟩
      exact sSeq_ok (sAsg_ok (aCall_ok rfl rfl (ends_of kl _)) rfl) (sExpr_ok (aCall_ok rfl rfl em)))
  obtain ⟨σ', g, eF, o3, o4, o5, rfl, rfl⟩ := loop
  rw [List.length_map, List.take_length] at eF
  refine mDefK_rt (σ := [some (netV ns L), some (.tup (ks.map nI)), some (.loc h.length), o3, o4, o5]) (h1 := h ++ [.lst ((homesF ns.length (ks.map (edg L))).map nI)]) (v := .loc h.length) ?_
  refine sSeq_ok (sSet_ok (aLstRg1_ok (n := ns.length) (aFn_ok (aCons_ok (aOp_ok rfl rfl (net_0 _ _ _)) rfl) (lenT (by simp) _)) (by omega))) ?_
  refine sSeq_ok (σ1 := [some (netV ns L), some (.tup (ks.map nI)), some (.loc h.length), o3, o4, o5]) (h1 := h ++ [.lst ((homesF ns.length (ks.map (edg L))).map nI)]) (sFor_ok (aItS_tup (aVar 1) _ _ _ (ks.map nI) rfl) ?_) rfl
  show forA (itVals (ks.map nI)) _ _ (ks.map nI).length 0 _ _ = _
  rw [List.length_map]
  exact eF
theorem filt_nI (P : Nat → Bool) (Q : PV → Bool) (h : ∀ k, Q (nI k) = P k) (ks : List Nat) : (ks.map nI).filter Q = (ks.filter P).map nI := by
  rw [List.filter_map]
  congr 1
  exact List.filter_congr fun k _ => h k
def neq (k : Nat) (x : PV) : Bool := match x with
  | .int i => !decide (i = k)
  | _ => false
end G12

namespace G12
open PySem PySem.Spec
open PyProof.Rows hiding St
open L2 AB MG
variable [Errs]
theorem Cn_homes {n : Nat} {E : List (Nat × Nat)} (lt : ∀ e ∈ E, e.1 < n ∧ e.2 < n) {a b : Nat} (ha : a < n) (hb : b < n) : Cn E a b ↔ (homesF n E).getD a 0 = (homesF n E).getD b 0 := by
  have inv := homesF_inv (n := n) lt
  exact ⟨fun c => c.agree (fun a => (homesF n E).getD a 0) inv.one, fun e => inv.two a b ha hb e⟩
theorem hangs {ns : List Str} {L : List (Str × Nat × Nat)} (lt : LtN ns.length L) (pos : 0 < ns.length) (n10 : ns.length ≤ 10) {js : List Nat} (hj : ∀ k ∈ js, k < L.length) (h : AH) :
    ∃ b, m_hangs_together [netV ns L, .tup (js.map nI)] h = .ok (.bl b) h ∧ (b = true ↔ ∀ p, p < ns.length → Jn (edg L) js 0 p) := by
  have hb := homes_by (ns := ns) (L := L) lt n10 hj h
  have hom := fun {a b : Nat} => Cn_homes (edgs_lt lt hj) (a := a) (b := b)
  have hl := homesF_len ns.length (js.map (edg L))
  generalize homesF ns.length (js.map (edg L)) = H at *
  have ne : H.map (fun n : Nat => (n : Int)) ≠ [] := fun e => by
    have q := congrArg List.length e
    rw [List.length_map, List.length_nil] at q
    omega
  refine ⟨decide (((dedI (H.map fun n : Nat => (n : Int))).length : Int) = 1), ?_, ?_⟩
  · unfold m_hangs_together b_hangs_together
    refine (mDef_rt (σ := [some (netV ns L), some (.tup (js.map nI))]) (h1 := h ++ [.lst (H.map nI)]) (v := .bl (decide (((dedI (H.map fun n : Nat => (n : Int))).length : Int) = 1))) ?_).trans (finC_ext rfl)
    refine sRet_ok (aOp_ok (x := .int (dedI (H.map fun n : Nat => (n : Int))).length) (h1 := h ++ [.lst (H.map nI)]) ?_ rfl (fEq_i _ _ _))
    show (aLenSet _) _ h = _
    unfold aLenSet
    have q := aCall_ok (n := 2) (m := m_homes_by) (l := aCons (aVar 0) (aCons (aVar 1) aNil)) (σ := startA 2 [netV ns L, .tup (js.map nI)]) (h := h) rfl rfl hb
    rw [q, Res.bind_ok, lstOf_loc (getLast_app _ _), Option.bind_some, nI_map, intsOf_map]
    dsimp only
    exact if_pos (by simp; omega)
  · rw [decide_eq_true_iff]
    have c1 : (((dedI (H.map fun n : Nat => (n : Int))).length : Int) = 1) ↔ (dedI (H.map fun n : Nat => (n : Int))).length = 1 := by omega
    rw [c1, ded_one ne]
    have at0 : ∀ p, p < ns.length → ((H.getD p 0 : Nat) : Int) ∈ H.map fun n : Nat => (n : Int) := fun p hp => by
      have : p < H.length := by omega
      refine List.mem_map.mpr ⟨_, ?_, rfl⟩
      simp [List.getD_eq_getElem?_getD, this]
    constructor
    · intro a p hp
      refine (hom pos hp).mpr ?_
      have := a _ (at0 0 pos) _ (at0 p hp)
      omega
    · intro a
      have all : ∀ y ∈ H.map (fun n : Nat => (n : Int)), y = (H.getD 0 0 : Nat) := fun y hy => by
        obtain ⟨z, hz, rfl⟩ := List.mem_map.mp hy
        obtain ⟨p, hp, e⟩ := List.getElem_of_mem hz
        have q := (hom pos (by omega)).mp (a p (by omega))
        rw [q, List.getD_eq_getElem?_getD, List.getElem?_eq_getElem hp, e]; rfl
      intro y hy z hz
      rw [all y hy, all z hz]
theorem all_lines {ns : List Str} {L : List (Str × Nat × Nat)} (l20 : L.length ≤ 20) (h : AH) : m_all_lines [netV ns L] h = .ok (.tup ((List.range L.length).map nI)) h := by
  unfold m_all_lines b_all_lines
  refine (mDef_rt (σ := [some (netV ns L)]) (h1 := h) (v := .tup ((List.range L.length).map nI)) ?_).trans (finC_same (low_tupn _ _))
  exact sRet_ok (aTupRg1_ok (aFn_ok (aCons_ok (aOp_ok rfl rfl (net_1 _ _ _)) rfl) (lenT (by simp) _)) (by omega))
abbrev Ap : List (Str × PV) := [("word", .str "apart")]
theorem need {ns : List Str} {L : List (Str × Nat × Nat)} (lt : LtN ns.length L) (pos : 0 < ns.length) (n10 : ns.length ≤ 10) (l20 : L.length ≤ 20) (h : AH) :
    ((∀ p, p < ns.length → Jn (edg L) (List.range L.length) 0 p) → m_need_together [netV ns L] h = .ok .non h) ∧
    ((¬ ∀ p, p < ns.length → Jn (edg L) (List.range L.length) 0 p) → m_need_together [netV ns L] h = .exc Errs.BadStep Ap h) := by
  obtain ⟨b, eb, hb⟩ := hangs lt pos n10 (js := List.range L.length) (fun k hk => by simpa using hk) h
  have ec : (tNot (aTr (aCall 2 m_hangs_together (aCons (aVar 0) (aCons (aCall 1 m_all_lines (aCons (aVar 0) (aNil))) (aNil)))))) (startA 1 [netV ns L]) h = .ok (!b) h := tNot_ok (aTr_ok (aCall_ok (aCons_ok rfl (aCons_ok (aCall_ok rfl rfl (all_lines l20 h)) rfl)) rfl eb))
  constructor
  · intro a
    rw [hb.mpr a] at ec
    unfold m_need_together b_need_together
    exact (mDef_nx (σ := [some (netV ns L)]) (h1 := h) ((sIf_f ec).trans rfl)).trans (finC_same rfl)
  · intro a
    have : b = false := by
      cases b with
      | false => rfl
      | true => exact absurd (hb.mp rfl) a
    subst this
    unfold m_need_together b_need_together
    exact mDef_exc (σ := [some (netV ns L)]) ((sIf_t ec).trans (sRaise_ok (xs := [.str "apart"]) rfl rfl))
end G12

/-! lines taken one by one, each that makes no ring: a tree worth most -/
namespace MG
open AB
section
variable {e : Nat → Nat × Nat}
theorem wo_len {T : List Nat} {o : Nat} (h : o ∈ T) : (wo T o).length < T.length := by
  unfold wo
  refine Nat.lt_of_le_of_ne (List.length_filter_le _ _) fun c => ?_
  have := List.length_filter_eq_length_iff.mp c o h
  simp at this
theorem least_of : ∀ (n : Nat) (T : List Nat), T.length ≤ n → ∀ {a b : Nat}, Jn e T a b → ∃ T', (∀ o ∈ T', o ∈ T) ∧ Jn e T' a b ∧ ∀ o ∈ T', ¬ Jn e (wo T' o) a b
  | 0, T, hn, a, b, j => ⟨T, fun _ h => h, j, fun o h => by
    have := List.length_pos_of_mem h; omega⟩
  | n + 1, T, hn, a, b, j => by
    by_cases c : ∃ o ∈ T, Jn e (wo T o) a b
    · obtain ⟨o, ho, jo⟩ := c
      obtain ⟨T', s, h1, h2⟩ := least_of n (wo T o) (by have := wo_len ho; omega) jo
      exact ⟨T', fun x hx => (mem_wo.mp (s x hx)).1, h1, h2⟩
    · exact ⟨T, fun _ h => h, j, fun o ho jo => c ⟨o, ho, jo⟩⟩
/-- a way whose lines are all needed -/
theorem needed {T : List Nat} (f : Fst e T) {a b : Nat} (j : Jn e T a b) : ∃ T', (∀ o ∈ T', o ∈ T) ∧ Jn e T' a b ∧ ∀ o ∈ T', ¬ Jn e (wo T o) a b := by
  obtain ⟨T', s, h1, h2⟩ := least_of T.length T (Nat.le_refl _) j
  refine ⟨T', s, h1, fun o ho jo => f o (s o ho) ?_⟩
  have up : ∀ {x y}, Jn e (wo T' o) x y → Jn e (wo T o) x y := fun q => q.mono fun x hx => by
    have := mem_wo.mp hx
    exact mem_wo.mpr ⟨s x this.1, this.2⟩
  have h1' : Jn e (wo T' o ++ [o]) a b := h1.mono fun x hx => wo_back hx
  rcases Jn.cut h1' with q | ⟨q1, q2⟩ | ⟨q1, q2⟩
  · exact absurd q (h2 o ho)
  · exact ((up q1).sm.tr jo).tr (up q2).sm
  · exact (((up q1).sm.tr jo).tr (up q2).sm).sm
theorem swap_ex {T G : List Nat} (fT : Fst e T) (fG : Fst e G) {k : Nat} (hk : k ∈ G) (nk : k ∉ T) (j : Jn e T (e k).1 (e k).2) : ∃ o, o ∈ T ∧ o ∉ G ∧ ¬ Jn e (wo T o) (e k).1 (e k).2 := by
  obtain ⟨T', s, h1, h2⟩ := needed fT j
  refine Classical.byContradiction fun c => fG k hk ?_
  refine h1.mono fun o ho => mem_wo.mpr ⟨?_, fun q => ?_⟩
  · exact Classical.byContradiction fun d => c ⟨o, s o ho, d, h2 o ho⟩
  · subst q; exact nk (s o ho)
/-! taken one by one -/
open Classical in
noncomputable def gr (e : Nat → Nat × Nat) : List Nat → List Nat → List Nat
  | T, [] => T
  | T, k :: r => if Jn e T (e k).1 (e k).2 then gr e T r else gr e (T ++ [k]) r
theorem gr_pos {T r : List Nat} {k : Nat} (h : Jn e T (e k).1 (e k).2) : gr e T (k :: r) = gr e T r := if_pos h
theorem gr_neg {T r : List Nat} {k : Nat} (h : ¬ Jn e T (e k).1 (e k).2) : gr e T (k :: r) = gr e (T ++ [k]) r := if_neg h
theorem gr_app : ∀ (xs ys T : List Nat), gr e T (xs ++ ys) = gr e (gr e T xs) ys
  | [], _, _ => rfl
  | x :: xs, ys, T => by
    by_cases c : Jn e T (e x).1 (e x).2
    · rw [List.cons_append, gr_pos c, gr_pos c, gr_app xs]
    · rw [List.cons_append, gr_neg c, gr_neg c, gr_app xs]
theorem gr_snoc (xs T : List Nat) (k : Nat) : (Jn e (gr e T xs) (e k).1 (e k).2 → gr e T (xs ++ [k]) = gr e T xs) ∧ (¬ Jn e (gr e T xs) (e k).1 (e k).2 → gr e T (xs ++ [k]) = gr e T xs ++ [k]) :=
  ⟨fun h => by rw [gr_app, gr_pos h]; rfl, fun h => by rw [gr_app, gr_neg h]; rfl⟩
theorem gr_fst : ∀ (js T : List Nat), Fst e T ∧ T.Nodup → Fst e (gr e T js) ∧ (gr e T js).Nodup
  | [], _, h => h
  | k :: r, T, h => by
    by_cases c : Jn e T (e k).1 (e k).2
    · rw [gr_pos c]; exact gr_fst r T h
    · rw [gr_neg c]
      exact gr_fst r _ ⟨h.1.add c, List.nodup_append.mpr ⟨h.2, by simp, fun x hx y hy q => by
        rw [List.mem_singleton] at hy; subst hy; subst q; exact c (Jn.line hx)⟩⟩
theorem gr_mono : ∀ (js T : List Nat) {x : Nat}, x ∈ T → x ∈ gr e T js
  | [], _, _, h => h
  | k :: r, T, x, h => by
    by_cases c : Jn e T (e k).1 (e k).2
    · rw [gr_pos c]; exact gr_mono r T h
    · rw [gr_neg c]; exact gr_mono r _ (List.mem_append_left _ h)
theorem gr_sub : ∀ (js T : List Nat) {x : Nat}, x ∈ gr e T js → x ∈ T ∨ x ∈ js
  | [], _, _, h => .inl h
  | k :: r, T, x, h => by
    by_cases c : Jn e T (e k).1 (e k).2
    · rw [gr_pos c] at h
      rcases gr_sub r T h with q | q
      · exact .inl q
      · exact .inr (List.mem_cons_of_mem _ q)
    · rw [gr_neg c] at h
      rcases gr_sub r _ h with q | q
      · rcases List.mem_append.mp q with q | q
        · exact .inl q
        · rw [List.mem_singleton] at q; subst q; exact .inr List.mem_cons_self
      · exact .inr (List.mem_cons_of_mem _ q)
theorem gr_span : ∀ (js T : List Nat) {k : Nat}, k ∈ js → Jn e (gr e T js) (e k).1 (e k).2
  | k :: r, T, x, h => by
    rcases List.mem_cons.mp h with rfl | h
    · by_cases c : Jn e T (e x).1 (e x).2
      · rw [gr_pos c]; exact c.mono fun y hy => gr_mono r T hy
      · rw [gr_neg c]; exact Jn.line (gr_mono r _ (by simp))
    · by_cases c : Jn e T (e k).1 (e k).2
      · rw [gr_pos c]; exact gr_span r T h
      · rw [gr_neg c]; exact gr_span r _ h
theorem first_not {P : Nat → Prop} : ∀ {js : List Nat}, (∃ x ∈ js, ¬ P x) → ∃ pre k post, js = pre ++ k :: post ∧ (∀ x ∈ pre, P x) ∧ ¬ P k
  | [], ⟨x, h, _⟩ => by cases h
  | y :: js, ⟨x, h, n⟩ => by
    by_cases c : P y
    · have hx : x ∈ js := by
        rcases List.mem_cons.mp h with rfl | h
        · exact absurd c n
        · exact h
      obtain ⟨pre, k, post, e1, e2, e3⟩ := first_not ⟨x, hx, n⟩
      exact ⟨y :: pre, k, post, by rw [e1]; rfl, fun z hz => by
        rcases List.mem_cons.mp hz with rfl | hz
        · exact c
        · exact e2 z hz, e3⟩
    · exact ⟨[], y, js, rfl, by simp, c⟩
theorem wo_perm {T : List Nat} (nd : T.Nodup) {o : Nat} (ho : o ∈ T) : (o :: wo T o).Perm T := by
  refine (List.perm_ext_iff_of_nodup (List.nodup_cons.mpr ⟨fun h => (mem_wo.mp h).2 rfl, nd.filter _⟩) nd).mpr fun x => ?_
  rw [List.mem_cons, mem_wo]
  constructor
  · rintro (rfl | h)
    · exact ho
    · exact h.1
  · intro h
    by_cases c : x = o
    · exact .inl c
    · exact .inr ⟨h, c⟩
theorem sum_perm {xs ys : List Int} (p : xs.Perm ys) : xs.sum = ys.sum := by
  induction p with
  | nil => rfl
  | cons x _ ih => rw [List.sum_cons, List.sum_cons, ih]
  | swap x y l => rw [List.sum_cons, List.sum_cons, List.sum_cons, List.sum_cons]; omega
  | trans _ _ h1 h2 => rw [h1, h2]
/-- nothing that has no ring and reaches all is worth more -/
theorem gr_best (w : Nat → Int) {js : List Nat} (hw : js.Pairwise fun a b => w b ≤ w a) (ndj : js.Nodup) : ∀ (m : Nat) (T : List Nat), (T.filter fun x => !decide (x ∈ gr e [] js)).length ≤ m → Fst e T → T.Nodup → (∀ k ∈ T, k ∈ js) → (∀ k ∈ js, Jn e T (e k).1 (e k).2) → (T.map w).sum ≤ ((gr e [] js).map w).sum := by
  obtain ⟨fG, nG⟩ := gr_fst (e := e) js [] ⟨Fst.nil, List.nodup_nil⟩
  have sG : ∀ {x}, x ∈ gr e [] js → x ∈ js := fun h => by
    rcases gr_sub js [] h with q | q
    · cases q
    · exact q
  have done : ∀ T : List Nat, Fst e T → T.Nodup → (∀ k ∈ js, Jn e T (e k).1 (e k).2) → (∀ t ∈ T, t ∈ gr e [] js) → (T.map w).sum ≤ ((gr e [] js).map w).sum := fun T fT nT cT all => by
    have back : ∀ g ∈ gr e [] js, g ∈ T := fun g hg => Classical.byContradiction fun c => fG g hg ((cT g (sG hg)).mono fun x hx => mem_wo.mpr ⟨all x hx, fun q => by subst q; exact c hx⟩)
    have p : T.Perm (gr e [] js) := (List.perm_ext_iff_of_nodup nT nG).mpr fun x => ⟨all x, back x⟩
    exact Int.le_of_eq (sum_perm (p.map w))
  intro m
  induction m with
  | zero =>
    intro T hm fT nT hT cT
    refine done T fT nT cT fun t ht => Classical.byContradiction fun c => ?_
    have : t ∈ T.filter fun x => !decide (x ∈ gr e [] js) := List.mem_filter.mpr ⟨ht, by simp [c]⟩
    have := List.length_pos_of_mem this
    omega
  | succ m ih =>
    intro T hm fT nT hT cT
    by_cases all : ∀ t ∈ T, t ∈ gr e [] js
    · exact done T fT nT cT all
    · obtain ⟨t, ht, nt⟩ : ∃ t, t ∈ T ∧ t ∉ gr e [] js := Classical.byContradiction fun c => all fun t ht => Classical.byContradiction fun d => c ⟨t, ht, d⟩
      obtain ⟨pre, k, post, ej, hp, hk⟩ := first_not (P := fun x => x ∈ T ↔ x ∈ gr e [] js) (js := js) ⟨t, hT t ht, fun q => nt (q.mp ht)⟩
      have ndj' := ndj
      rw [ej] at ndj'
      have nkp : k ∉ pre := fun h => (List.nodup_append.mp ndj').2.2 k h k (by simp) rfl
      have eG : gr e [] js = gr e (gr e [] (pre ++ [k])) post := by rw [ej, show pre ++ k :: post = (pre ++ [k]) ++ post by simp, gr_app]
      have inT : ∀ x ∈ gr e [] pre, x ∈ T ∧ x ≠ k := fun x hx => by
        have hxp : x ∈ pre := by
          rcases gr_sub pre [] hx with q | q
          · cases q
          · exact q
        have hxG : x ∈ gr e [] js := by rw [ej, gr_app]; exact gr_mono _ _ hx
        exact ⟨(hp x hxp).mpr hxG, fun q => by subst q; exact nkp hxp⟩
      by_cases kT : k ∈ T
      · have kG : k ∉ gr e [] js := fun h => hk ⟨fun _ => h, fun _ => kT⟩
        by_cases c : Jn e (gr e [] pre) (e k).1 (e k).2
        · exact absurd (c.mono fun x hx => mem_wo.mpr (inT x hx)) (fT k kT)
        · refine absurd ?_ kG
          rw [eG, (gr_snoc pre [] k).2 c]
          exact gr_mono _ _ (by simp)
      · have kG : k ∈ gr e [] js := Classical.byContradiction fun h => hk ⟨fun q => absurd q kT, fun q => absurd q h⟩
        have kj : k ∈ js := sG kG
        obtain ⟨o, oT, oG, ne⟩ := swap_ex fT fG kG kT (cT k kj)
        have opost : o ∈ post := by
          have := hT o oT
          rw [ej] at this
          rcases List.mem_append.mp this with q | q
          · exact absurd ((hp o q).mp oT) oG
          · rcases List.mem_cons.mp q with rfl | q
            · exact absurd oT kT
            · exact q
        have wok : w o ≤ w k := by
          rw [ej] at hw
          exact (List.pairwise_cons.mp (List.pairwise_append.mp hw).2.1).1 o opost
        have nk : k ∉ wo T o := fun h => kT (mem_wo.mp h).1
        have n2 : (wo T o ++ [k]).Nodup := List.nodup_append.mpr ⟨nT.filter _, by simp, fun x hx y hy q => by
          rw [List.mem_singleton] at hy; subst hy; subst q; exact nk hx⟩
        have s1 : (T.map w).sum = w o + ((wo T o).map w).sum := by
          rw [← sum_perm ((wo_perm nT oT).map w), List.map_cons, List.sum_cons]
        have s2 : ((wo T o ++ [k]).map w).sum = ((wo T o).map w).sum + w k := by
          rw [List.map_append, List.sum_append]; simp
        have len : ((wo T o ++ [k]).filter fun x => !decide (x ∈ gr e [] js)).length ≤ m := by
          rw [List.filter_append, List.filter_cons_of_neg (by simp [kG]), List.filter_nil, List.append_nil]
          have q := ((wo_perm nT oT).filter fun x => !decide (x ∈ gr e [] js)).length_eq
          rw [List.filter_cons_of_pos (by simp [oG]), List.length_cons] at q
          omega
        have := ih (wo T o ++ [k]) len (fT.swap ne) n2 (fun x hx => by
          rcases List.mem_append.mp hx with q | q
          · exact hT x (mem_wo.mp q).1
          · rw [List.mem_singleton] at q; subst q; exact kj) (fun x hx => swap_jn (cT k kj) ne (cT x hx))
        omega
end
end MG

namespace G12
open PySem PySem.Spec
open PyProof.Rows hiding St
open L2 AB MG
variable [Errs]
abbrev bdG : AS := (sSeq (sAsg (aCall 2 m_ends_of (aCons (aVar 0) (aCons (aVar 4) (aNil)))) (gTup' 2 (gCons' (gN 5) (gCons' (gN 6) (gNil'))))) (sIf (aTr (aCall 3 m_merged (aCons (aVar 2) (aCons (aVar 5) (aCons (aVar 6) (aNil)))))) (sExpr (aM isL mAppend (aVar 3) (aCons (aVar 4) (aNil)))) (sNext)))
theorem gr_take {e : Nat → Nat × Nat} {js : List Nat} {i k : Nat} (ek : js[i]? = some k) : js.take (i + 1) = js.take i ++ [k] := by rw [List.take_succ, ek]; rfl
theorem grown_by {ns : List Str} {L : List (Str × Nat × Nat)} (lt : LtN ns.length L) (n10 : ns.length ≤ 10) {v : PV} {js : List Nat} {h : AH} (it : ∀ (σ : ASt) (g : AH), aVar 1 σ (h ++ g) = .ok v (h ++ g) → ∃ A, aItS (aVar 1) σ (h ++ g) = .ok A (h ++ g) ∧ A.n = js.length ∧ ∀ i g', A.nxt i (h ++ g') = some (js.map nI)[i]?) (hj : ∀ k ∈ js, k < L.length) (l20 : L.length ≤ 20) :
    m_grown_by [netV ns L, v] h = .ok (.tup ((srtN (gr (edg L) [] js)).map nI)) h := by
  unfold m_grown_by b_grown_by
  let S : Option PV → Option PV → Option PV → ASt := fun o4 o5 o6 => [some (netV ns L), some v, some (.loc h.length), some (.loc (h.length + 1)), o4, o5, o6]
  let T : Nat → List Nat := fun i => gr (edg L) [] (js.take i)
  let H0 : AH := h ++ AO.lst ((List.range ns.length).map nI) :: [AO.lst []]
  obtain ⟨A, eA, nA, xA⟩ := it (S none none none) (AO.lst ((List.range ns.length).map nI) :: [AO.lst []]) rfl
  have lT : ∀ i, (T i).length ≤ L.length := fun i => by
    have q := (gr_fst (e := edg L) (js.take i) [] ⟨Fst.nil, List.nodup_nil⟩).2
    exact len_lt q fun j hj' => hj j (by
      rcases gr_sub (e := edg L) (js.take i) [] hj' with q | q
      · cases q
      · exact List.mem_of_mem_take q)
  obtain ⟨hs, o4, o5, o6, eF⟩ : ∃ (hs : List Nat) (o4 o5 o6 : Option PV), forA A (gN 4) bdG A.n 0 (S none none none) H0 = .fin .nx (S o4 o5 o6) (h ++ AO.lst (hs.map nI) :: [AO.lst ((T js.length).map nI)]) := by
    refine forA_rule (a := A) (g := gN 4) (b := bdG) (js.map nI)
      (fun i σ g => ∃ (hs : List Nat) (o4 o5 o6 : Option PV), σ = S o4 o5 o6 ∧ g = h ++ AO.lst (hs.map nI) :: [AO.lst ((T i).map nI)] ∧ LI (edg L) ns.length (js.take i) (T i) hs)
      (fun r => ∃ (hs : List Nat) (o4 o5 o6 : Option PV), r = .fin .nx (S o4 o5 o6) (h ++ AO.lst (hs.map nI) :: [AO.lst ((T js.length).map nI)])) (by rw [List.length_map]; omega)
      (fun i σ g _ ⟨hs, o4, o5, o6, e1, e2, li⟩ => by rw [e2]; exact xA i _)
      (fun i x σ g ex ⟨hs, o4, o5, o6, e1, e2, li⟩ => by
        subst e1; subst e2
        rw [List.getElem?_map] at ex
        obtain ⟨k, ek, rfl⟩ := Option.map_eq_some_iff.mp ex
        have et := gr_take (e := edg L) ek
        have kl := hj k (List.mem_of_getElem? ek)
        obtain ⟨la, lb⟩ := edg_lt lt kl
        have hl := li.len
        have em := merged (h := h ++ AO.lst (hs.map nI) :: [AO.lst ((T i).map nI)]) (k := h.length) (hs := hs) (a := (edg L k).1) (b := (edg L k).2) (g0 rfl) (by omega) (by omega) (by omega)
        rw [p0 rfl] at em
        have s1 : (sAsg (aCall 2 m_ends_of (aCons (aVar 0) (aCons (aVar 4) (aNil)))) (gTup' 2 (gCons' (gN 5) (gCons' (gN 6) (gNil'))))) (S (some (nI k)) o5 o6) (h ++ AO.lst (hs.map nI) :: [AO.lst ((T i).map nI)]) = .fin .nx (S (some (nI k)) (some (.int (edg L k).1)) (some (.int (edg L k).2))) (h ++ AO.lst (hs.map nI) :: [AO.lst ((T i).map nI)]) := sAsg_ok (aCall_ok rfl rfl (ends_of kl _)) rfl
        by_cases c : hs.getD (edg L k).1 0 = hs.getD (edg L k).2 0
        · have e0 : mergeF hs (edg L k).1 (edg L k).2 = hs := by unfold mergeF; rw [if_pos c]
          rw [e0, decide_eq_true c] at em
          have ec : (aTr (aCall 3 m_merged (aCons (aVar 2) (aCons (aVar 5) (aCons (aVar 6) (aNil)))))) (S (some (nI k)) (some (.int (edg L k).1)) (some (.int (edg L k).2))) (h ++ AO.lst (hs.map nI) :: [AO.lst ((T i).map nI)]) = .ok false (h ++ AO.lst (hs.map nI) :: [AO.lst ((T i).map nI)]) := aTr_ok (aCall_ok rfl rfl em)
          have li' := li.skip la lb c
          have eT : T (i + 1) = T i := by
            show gr (edg L) [] (js.take (i + 1)) = _
            rw [et]; exact (gr_snoc _ _ _).1 (li.two _ _ la lb c)
          rw [← et] at li'
          exact ⟨_, _, rfl, .inl ⟨_, _, .inl (sSeq_ok s1 ((sIf_f ec).trans rfl)), hs, _, _, _, rfl, by rw [eT], by rw [eT]; exact li'⟩⟩
        · have e0 : mergeF hs (edg L k).1 (edg L k).2 = hs.map (mrg (hs.getD (edg L k).1 0) (hs.getD (edg L k).2 0)) := by unfold mergeF mrg; rw [if_neg c]
          rw [e0, decide_eq_false c] at em
          have ec : (aTr (aCall 3 m_merged (aCons (aVar 2) (aCons (aVar 5) (aCons (aVar 6) (aNil)))))) (S (some (nI k)) (some (.int (edg L k).1)) (some (.int (edg L k).2))) (h ++ AO.lst (hs.map nI) :: [AO.lst ((T i).map nI)]) = .ok true (h ++ AO.lst ((hs.map (mrg (hs.getD (edg L k).1 0) (hs.getD (edg L k).2 0))).map nI) :: [AO.lst ((T i).map nI)]) := aTr_ok (aCall_ok rfl rfl em)
          have li' := li.join la lb c (m := hs.getD (edg L k).1 0) (.inl rfl) (f := mrg (hs.getD (edg L k).1 0) (hs.getD (edg L k).2 0)) (fun s => by unfold mrg; split <;> split <;> omega)
          have eT : T (i + 1) = T i ++ [k] := by
            show gr (edg L) [] (js.take (i + 1)) = _
            rw [et]; exact (gr_snoc _ _ _).2 fun j => c (li.eq j)
          rw [← et] at li'
          have lt := lT i
          have ea : mAppend (.loc (h.length + 1)) [nI k] (h ++ AO.lst ((hs.map (mrg (hs.getD (edg L k).1 0) (hs.getD (edg L k).2 0))).map nI) :: [AO.lst ((T i).map nI)]) = .ok .non (h ++ AO.lst ((hs.map (mrg (hs.getD (edg L k).1 0) (hs.getD (edg L k).2 0))).map nI) :: [AO.lst ((T (i + 1)).map nI)]) := by
            rw [ap1 rfl (by rw [List.length_map]; omega), eT]; simp
          exact ⟨_, _, rfl, .inl ⟨_, _, .inl (sSeq_ok s1 ((sIf_t ec).trans (sExpr_ok (aM_ok rfl (isL1 rfl) (aCons_ok rfl rfl) ea)))), _, _, _, _, rfl, rfl, by rw [eT]; exact li'⟩⟩)
      (fun σ g ⟨hs, o4, o5, o6, e1, e2, _⟩ => ⟨hs, o4, o5, o6, by rw [e1, e2, List.length_map]⟩)
      (σ := S none none none) (h := H0) ⟨List.range ns.length, none, none, none, rfl, rfl, by rw [List.take_zero]; exact LI.start _⟩
  have eT : T js.length = gr (edg L) [] js := by show gr (edg L) [] (js.take js.length) = _; rw [List.take_length]
  rw [eT] at eF
  have lG := lT js.length
  rw [eT] at lG
  let G := gr (edg L) [] js
  have lG2 : G.length < 64 := by show (gr (edg L) [] js).length < 64; omega
  let H1 : AH := h ++ AO.lst (hs.map nI) :: [AO.lst (G.map nI)]
  have es : fnSortLT [.loc (h.length + 1)] H1 = .ok (.loc H1.length) (H1 ++ [AO.lst ((srtN G).map nI)]) := fnSortLT_n (ks := G) (seqOf_loc (g1 rfl)) lG2
  have eh : H1 ++ [AO.lst ((srtN G).map nI)] = h ++ (AO.lst (hs.map nI) :: [AO.lst (G.map nI)] ++ [AO.lst ((srtN G).map nI)]) := by show (h ++ _) ++ _ = _; rw [List.append_assoc]
  refine (mDef_rt (σ := S o4 o5 o6) (h1 := H1 ++ [AO.lst ((srtN G).map nI)]) (v := .tup ((srtN G).map nI)) ?_).trans (by rw [eh]; exact finC_ext (frz_below (low_nI _ _)))
  have hb := homes_by lt n10 (ks := []) (by simp) h
  refine sSeq_ok (σ1 := [some (netV ns L), some v, some (.loc h.length), none, none, none, none]) (h1 := h ++ [AO.lst ((List.range ns.length).map nI)]) (sSet_ok (aCall_ok (aCons_ok rfl (aCons_ok (aTup_ok (xs := []) rfl (by simp)) rfl)) rfl hb)) ?_
  refine sSeq_ok (σ1 := S none none none) (h1 := H0) (by
    refine (sSet_ok (aLst_ok (xs := []) rfl (by simp))).trans ?_
    simp [S, H0]) ?_
  refine sSeq_ok (sFor_ok eA eF) ?_
  exact sRet_ok (aFn_ok (aCons_ok (l := aNil) (aFn_ok rfl es) rfl) (fnTuple_s (seqOf_loc (getLast_app _ _))))
theorem it_lst {js : List Nat} (h : AH) : ∀ (σ : ASt) (g : AH), aVar 1 σ (h ++ g) = .ok (.lst (js.map nI)) (h ++ g) → ∃ A, aItS (aVar 1) σ (h ++ g) = .ok A (h ++ g) ∧ A.n = js.length ∧ ∀ i g', A.nxt i (h ++ g') = some (js.map nI)[i]? := fun σ g e => by
  obtain ⟨A, e1, e2, e3⟩ := aItS_lst _ _ _ _ _ e
  exact ⟨A, e1, by rw [e2, List.length_map], fun i g' => e3 i _⟩
end G12

namespace G12
open PySem PySem.Spec
open PyProof.Rows hiding St
open L2 AB MG
variable [Errs]
def wt (ws : List Int) (k : Nat) : Int := ws.getD k 0
abbrev wsV (ws : List Int) : PV := .tup (ws.map .int)
theorem wt_ix {ws : List Int} {k : Nat} (hk : k < ws.length) (h : AH) : fIx (wsV ws) (nI k) h = .ok (.int (wt ws k)) h :=
  fIx_tup (atI_nat (by rw [List.getElem?_map, List.getElem?_eq_getElem hk]; unfold wt; rw [List.getD_eq_getElem?_getD, List.getElem?_eq_getElem hk]; rfl))
theorem fnSum_l {v : PV} {ns : List Int} {h : AH} (e : lstOf v h = some (ns.map .int)) : fnSum [v] h = .ok (.int ns.sum) h := by
  unfold fnSum
  dsimp only
  rw [e, Option.bind_some, intsOf_map]
def wS (ws : List Int) (ks : List Nat) : Int := (ks.map (wt ws)).sum
theorem worth_lc {ws : List Int} {ks : List Nat} (hk : ∀ k ∈ ks, k < ws.length) (hz : ks.length < 1000000) (h : AH) :
    (aFn fnSum (aCons (aLc (aItS (aVar 1)) [2] (gN 2) (tYes') (aOp fIx (aVar 0) (aVar 2))) (aNil))) [some (wsV ws), some (.tup (ks.map nI)), none] h = .ok (.int (wS ws ks)) (h ++ [AO.lst ((ks.map (wt ws)).map .int)]) := by
  have el := aLc_map (m := aItS (aVar 1)) (a := itVals (ks.map nI)) (vs := [2]) (g := gN 2) (t := tYes') (e := aOp fIx (aVar 0) (aVar 2)) (σ := [some (wsV ws), some (.tup (ks.map nI)), none]) (h := h) (h1 := h) (aItS_tup _ _ _ _ _ rfl) (ks.map nI) (fun x => match x with | .int i => .int (wt ws i.toNat) | x => x) (Nat.le_refl _) (by simp; omega) (fun _ _ _ => rfl) (fun x hx acc => by
    obtain ⟨k, hk', rfl⟩ := List.mem_map.mp hx
    exact ⟨[some (wsV ws), some (.tup (ks.map nI)), some (nI k)], rfl, rfl, aOp_ok rfl rfl (wt_ix (hk k hk') _)⟩)
  have em : (ks.map nI).map (fun x => match x with | .int i => .int (wt ws i.toNat) | x => x) = (ks.map (wt ws)).map PV.int := by rw [List.map_map, List.map_map]; rfl
  rw [em] at el
  exact aFn_ok (aCons_ok (l := aNil) el rfl) (fnSum_l (lstOf_loc (getLast_app _ _)))
theorem worth_of {ws : List Int} {ks : List Nat} (hk : ∀ k ∈ ks, k < ws.length) (hz : ks.length < 1000000) (h : AH) : m_worth_of [wsV ws, .tup (ks.map nI)] h = .ok (.int (wS ws ks)) h := by
  unfold m_worth_of b_worth_of
  exact (mDef_rt (σ := [some (wsV ws), some (.tup (ks.map nI)), none]) (sRet_ok (worth_lc hk hz h))).trans (finC_ext rfl)
theorem law_worth {ws : List Int} {ks : List Nat} (hk : ∀ k ∈ ks, k < ws.length) (hz : ks.length < 1000000) (h : AH) : m__law_worth [wsV ws, .tup (ks.map nI)] h = .ok (.int (wS ws ks)) h := by
  unfold m__law_worth b__law_worth
  exact (mDef_rt (σ := [some (wsV ws), some (.tup (ks.map nI)), none]) (sRet_ok (worth_lc hk hz h))).trans (finC_ext rfl)
/-! the lines, those worth most first -/
def prW (ws : List Int) (k : Nat) : Int × Int := (-(wt ws k), (k : Int))
def ordW (ws : List Int) (n : Nat) : List Nat := (((List.range n).map (prW ws)).mergeSort lePI).map fun p => p.2.toNat
theorem ordW_pr (ws : List Int) (n : Nat) : (ordW ws n).map (prW ws) = ((List.range n).map (prW ws)).mergeSort lePI := by
  unfold ordW
  rw [List.map_map]
  refine (List.map_congr_left fun p hp => ?_).trans (List.map_id _)
  obtain ⟨k, _, rfl⟩ := List.mem_map.mp ((List.mergeSort_perm _ _).mem_iff.mp hp)
  rfl
theorem ordW_perm (ws : List Int) (n : Nat) : (ordW ws n).Perm (List.range n) := by
  have := (List.mergeSort_perm ((List.range n).map (prW ws)) lePI).map fun p => p.2.toNat
  rw [List.map_map] at this
  refine this.trans (List.Perm.of_eq ?_)
  exact (List.map_congr_left fun k _ => rfl).trans (List.map_id _)
theorem lePI_sorted (ps : List (Int × Int)) : (ps.mergeSort lePI).Pairwise fun p q => lePI p q = true :=
  List.pairwise_mergeSort (le := lePI) (fun a b c h1 h2 => by
    rw [lePI_iff] at h1 h2 ⊢
    omega) (fun a b => by
    rw [Bool.or_eq_true, lePI_iff, lePI_iff]
    omega) ps
theorem ordW_desc (ws : List Int) (n : Nat) : (ordW ws n).Pairwise fun a b => wt ws b ≤ wt ws a := by
  have := lePI_sorted ((List.range n).map (prW ws))
  rw [← ordW_pr, List.pairwise_map] at this
  refine this.imp fun {a b} h => ?_
  rw [lePI_iff] at h
  simp only [prW] at h
  omega
theorem ordW_of {ws : List Int} {n : Nat} {js : List Nat} (p : js.Perm (List.range n)) (s : js.Pairwise fun a b => wt ws b < wt ws a ∨ (wt ws a = wt ws b ∧ a ≤ b)) : js = ordW ws n := by
  have e : js.map (prW ws) = ((List.range n).map (prW ws)).mergeSort lePI := sort_pairs (p.map _) (List.pairwise_map.mpr (s.imp fun {a b} h => by
    rw [lePI_iff]
    simp only [prW]
    omega))
  unfold ordW
  rw [← e, List.map_map]
  exact ((List.map_congr_left fun k _ => rfl).trans (List.map_id _)).symm
theorem fnSortA_ps {n : Nat} {h : AH} {ps : List (Int × Int)} (e : h[n]? = some (.lst (ps.map prI))) : fnSortA [.loc n] h = .ok (.loc h.length) (h ++ [.lst ((ps.mergeSort lePI).map prI)]) := by
  unfold fnSortA
  dsimp only
  rw [seqOf_loc e, Option.bind_some]
  cases ps with
  | nil =>
    show (if ([] : List Int).length < 64 then new (.lst (([].mergeSort fun a b => decide (a ≤ b)).map PV.int)) h else .stuck) = _
    rw [if_pos (by decide), List.mergeSort_nil, List.mergeSort_nil]; rfl
  | cons p ps =>
    have e3 : intsOf ((p :: ps).map prI) = none := rfl
    rw [e3, lstOf_loc e, Option.bind_some, pairsOf_map]
    rfl
section
variable {ns : List Str} {L : List (Str × Nat × Nat)} (lt : LtN ns.length L) (n10 : ns.length ≤ 10) (l20 : L.length ≤ 20) {ws : List Int} (lw : ws.length = L.length)
include lt n10 l20 lw
theorem best_by (h : AH) : m_best_by [netV ns L, wsV ws] h = .ok (.tup ((srtN (gr (edg L) [] (ordW ws L.length))).map nI)) h := by
  unfold m_best_by b_best_by
  let S : Option PV → Option PV → Option PV → ASt := fun o2 o3 o4 => [some (netV ns L), some (wsV ws), o2, o3, o4]
  let ps := (List.range L.length).map (prW ws)
  have e1 : (aLc (aItS (aCall 1 m_all_lines (aCons (aVar 0) (aNil)))) [3] (gN 3) (tYes') (aTup (aCons (aUn fNeg (aOp fIx (aVar 1) (aVar 3))) (aCons (aVar 3) (aNil))))) (S none none none) h = .ok (.loc h.length) (h ++ [AO.lst (ps.map prI)]) := by
    have ea : aItS (aCall 1 m_all_lines (aCons (aVar 0) (aNil))) (S none none none) h = .ok (itVals ((List.range L.length).map nI)) h := aItS_tup _ _ _ _ _ (aCall_ok rfl rfl (all_lines (ns := ns) l20 h))
    have q := aLc_map (vs := [3]) (g := gN 3) (t := tYes') (e := aTup (aCons (aUn fNeg (aOp fIx (aVar 1) (aVar 3))) (aCons (aVar 3) (aNil)))) ea ((List.range L.length).map nI) (fun x => match x with | .int i => prI (prW ws i.toNat) | x => x) (Nat.le_refl _) (by simp; omega) (fun _ _ _ => rfl) (fun x hx acc => by
      obtain ⟨k, hk, rfl⟩ := List.mem_map.mp hx
      have kl : k < ws.length := by rw [lw]; exact List.mem_range.mp hk
      have eu : (aUn fNeg (aOp fIx (aVar 1) (aVar 3))) (S none (some (nI k)) none) (h ++ [AO.lst acc]) = .ok (.int (-(wt ws k))) (h ++ [AO.lst acc]) := by
        unfold aUn
        rw [aOp_ok (a := aVar 1) (b := aVar 3) rfl rfl (wt_ix kl _)]; rfl
      exact ⟨S none (some (nI k)) none, rfl, rfl, aTup_ok (xs := [.int (-(wt ws k)), nI k]) (aCons_ok eu rfl) (by simp)⟩)
    rw [q]
    have : ((List.range L.length).map nI).map (fun x => match x with | .int i => prI (prW ws i.toNat) | x => x) = ps.map prI := by rw [List.map_map, List.map_map]; rfl
    rw [this]
  have e2 : (aFn fnSortA (aCons (aLc (aItS (aCall 1 m_all_lines (aCons (aVar 0) (aNil)))) [3] (gN 3) (tYes') (aTup (aCons (aUn fNeg (aOp fIx (aVar 1) (aVar 3))) (aCons (aVar 3) (aNil))))) (aNil))) (S none none none) h = .ok (.loc (h.length + 1)) (h ++ (AO.lst (ps.map prI) :: [AO.lst ((ps.mergeSort lePI).map prI)])) := by
    have := aFn_ok (aCons_ok (l := aNil) e1 rfl) (fnSortA_ps (getLast_app _ _))
    rw [this, List.length_append, List.append_assoc]; rfl
  let H1 : AH := h ++ (AO.lst (ps.map prI) :: [AO.lst ((ps.mergeSort lePI).map prI)])
  have hn : H1[h.length + 1]? = some (.lst ((ps.mergeSort lePI).map prI)) := g1 rfl
  have lp : (ps.mergeSort lePI).length = L.length := by rw [List.length_mergeSort]; simp [ps]
  have e3 := aLc_map (vs := [4, 3]) (g := gTup' 2 (gCons' (gN 4) (gCons' (gN 3) (gNil')))) (t := tYes') (e := aVar 3) (σ := S none none none) (h := h) (aItS_lc e2 hn) ((ps.mergeSort lePI).map prI) (fun x => match x with | .tup [_, .int k] => .int k | x => x) (Nat.le_refl _) (by rw [List.length_map]; omega) (fun i acc _ => by
      show (lstOf (.loc (h.length + 1)) (H1 ++ [AO.lst acc])).map (fun xs => xs[i]?) = _
      rw [lstOf_loc (show (H1 ++ [AO.lst acc])[h.length + 1]? = _ by rw [List.getElem?_append_left (by simp [H1]), hn])]; rfl) (fun x hx acc => by
      obtain ⟨p, hp, rfl⟩ := List.mem_map.mp hx
      exact ⟨S none (some (.int p.2)) (some (.int p.1)), rfl, rfl, rfl⟩)
  have em : ((ps.mergeSort lePI).map prI).map (fun x => match x with | .tup [_, .int k] => .int k | x => x) = (ordW ws L.length).map nI := by
    have q := ordW_pr ws L.length
    show ((((List.range L.length).map (prW ws)).mergeSort lePI).map prI).map _ = _
    rw [← q, List.map_map, List.map_map]; rfl
  rw [em] at e3
  have e4 : (aCut (aLc (aItS (aFn fnSortA (aCons (aLc (aItS (aCall 1 m_all_lines (aCons (aVar 0) (aNil)))) [3] (gN 3) (tYes') (aTup (aCons (aUn fNeg (aOp fIx (aVar 1) (aVar 3))) (aCons (aVar 3) (aNil))))) (aNil)))) [4, 3] (gTup' 2 (gCons' (gN 4) (gCons' (gN 3) (gNil')))) (tYes') (aVar 3))) (S none none none) h = .ok (.lst ((ordW ws L.length).map nI)) h := by
    refine (aCut_ok e3).trans ?_
    have ea : H1 ++ [AO.lst ((ordW ws L.length).map nI)] = h ++ (AO.lst (ps.map prI) :: [AO.lst ((ps.mergeSort lePI).map prI)] ++ [AO.lst ((ordW ws L.length).map nI)]) := by show (h ++ _) ++ _ = _; rw [List.append_assoc]
    have eg : (H1 ++ [AO.lst ((ordW ws L.length).map nI)])[H1.length]? = some (.lst ((ordW ws L.length).map nI)) := getLast_app _ _
    rw [ea] at eg
    show finC h.length h (H1 ++ [AO.lst ((ordW ws L.length).map nI)]) (.loc H1.length) = _
    rw [ea]
    exact finC_ext (frz_new (by simp [H1]) eg (low_nI _ _))
  have gb := grown_by lt n10 (h := h) (it_lst h) (js := ordW ws L.length) (fun k hk => List.mem_range.mp ((ordW_perm ws L.length).mem_iff.mp hk)) l20
  refine (mDef_rt (σ := S (some (.lst ((ordW ws L.length).map nI))) none none) (h1 := h) (v := .tup ((srtN (gr (edg L) [] (ordW ws L.length))).map nI)) ?_).trans (finC_same (low_tupn _ _))
  refine sSeq_ok (sSet_ok e4) ?_
  exact sRet_ok (aCall_ok rfl rfl gb)
end
end G12

namespace G12
open PySem PySem.Spec
open PyProof.Rows hiding St
open L2 AB MG
variable [Errs]
structure Tree (n : Nat) (L : List (Str × Nat × Nat)) (ks : List Nat) : Prop where
  lt : ∀ k ∈ ks, k < L.length
  srt : ks.Pairwise (· ≤ ·)
  nd : ks.Nodup
  fst : Fst (edg L) ks
  cn : ∀ a b, a < n → b < n → Jn (edg L) ks a b
theorem Tree.len {n : Nat} {L : List (Str × Nat × Nat)} {ks : List Nat} (t : Tree n L ks) : ks.length ≤ L.length := len_lt t.nd t.lt
/-- as many as places but one, and all hang together: no ring -/
theorem conn_fst {e : Nat → Nat × Nat} {n : Nat} (pos : 0 < n) {T : List Nat} (hT : ∀ k ∈ T, (e k).1 < n ∧ (e k).2 < n) (nd : T.Nodup) (c : ∀ p, p < n → Jn e T 0 p) (hl : T.length + 1 = n) : Fst e T := by
  obtain ⟨tr, hs, l⟩ := LJ.run T hT
  have := (fst_len pos (fun k hk => hT k (l.li.sub k hk)) l.li.fst l.li.nd).2.mpr fun p hp => l.li.span pos hp |>.mpr (c p hp)
  exact (l.forest nd).mp (by omega)
def fl : PV → Bool
  | .int _ => true
  | .bl _ => true
  | .str _ => true
  | .non => true
  | .tup _ => true
  | .lst _ => true
  | _ => false
def isI : PV → Bool
  | .int _ => true
  | _ => false
theorem is_int {v : PV} (hv : fl v = true) (h : AH) : m_is_integer [v] h = .ok (.bl (isI v)) h := by
  unfold m_is_integer b_is_integer
  refine (mDef_rt (σ := [some v]) (h1 := h) (v := .bl (isI v)) (sRet_ok ?_)).trans (finC_same rfl)
  cases v <;> first | rfl | cases hv
theorem aAnd_f {a b : AE} {σ : ASt} {h h1 : AH} (e : a σ h = .ok (.bl false) h1) : aAnd a b σ h = .ok (.bl false) h1 := by rw [aAnd_eq, e]; rfl
theorem aAnd_t {a b : AE} {σ : ASt} {h h1 : AH} (e : a σ h = .ok (.bl true) h1) : aAnd a b σ h = b σ h1 := by rw [aAnd_eq, e]; rfl
theorem tOr_f {a b : AT} {σ : ASt} {h h1 : AH} (e : a σ h = .ok false h1) : tOr a b σ h = b σ h1 := by rw [tOr_eq, e]; rfl
theorem tOr_t {a b : AT} {σ : ASt} {h h1 : AH} (e : a σ h = .ok true h1) : tOr a b σ h = .ok true h1 := by rw [tOr_eq, e]; rfl
theorem isi_tt (xs : List PV) (h : AH) : fnIsi [.tup xs, .raw (.ty "tuple")] h = .ok (.bl true) h := rfl
def inZ (hi : Int) : PV → Bool
  | .int i => decide (0 ≤ i) && decide (i ≤ hi)
  | _ => false
theorem within {v : PV} (hv : fl v = true) (hi : Int) (h : AH) : m_integer_within [v, .int 0, .int hi] h = .ok (.bl (inZ hi v)) h := by
  unfold m_integer_within b_integer_within
  refine (mDef_rt (σ := [some v, some (.int 0), some (.int hi)]) (h1 := h) (v := .bl (inZ hi v)) (sRet_ok ?_)).trans (finC_same rfl)
  have e := is_int hv h
  cases hI : isI v with
  | false =>
    rw [hI] at e
    have : inZ hi v = false := by cases v <;> first | rfl | cases hI
    rw [this]
    exact aAnd_f (aCall_ok rfl rfl e)
  | true =>
    rw [hI] at e
    obtain ⟨i, rfl⟩ : ∃ i, v = .int i := by cases v <;> first | exact ⟨_, rfl⟩ | cases hI
    refine (aAnd_t (aCall_ok rfl rfl e)).trans ?_
    show aChain fLe fLe (aVar 1) (aVar 0) (aVar 2) [some (.int i), some (.int 0), some (.int hi)] h = .ok (.bl (decide (0 ≤ i) && decide (i ≤ hi))) h
    have e1 : aVar 1 [some (.int i), some (.int 0), some (.int hi)] h = .ok (.int 0) h := rfl
    have e2 : aVar 0 [some (.int i), some (.int 0), some (.int hi)] h = .ok (.int i) h := rfl
    have e3 : aVar 2 [some (.int i), some (.int 0), some (.int hi)] h = .ok (.int hi) h := rfl
    unfold aChain
    rw [e1, Res.bind_ok, e2, Res.bind_ok, fLe_i, Res.bind_ok]
    cases c : decide (0 ≤ i) with
    | false => rfl
    | true =>
      dsimp only
      rw [e3, Res.bind_ok, fLe_i, Bool.true_and]
theorem boolsOf_map (f : PV → Bool) : ∀ xs : List PV, boolsOf (xs.map fun x => .bl (f x)) = some (xs.map f)
  | [] => rfl
  | x :: xs => by rw [List.map_cons, boolsOf, boolsOf_map f xs]; rfl
/-- a state, a thing that is none -/
def GY (y : PV) : Prop := (∃ xs, y = .tup xs ∧ (∀ x ∈ xs, fl x = true) ∧ xs.length ≤ 60) ∨ (∀ h, fnIsi [y, .raw (.ty "tuple")] h = .ok (.bl false) h)
theorem not_tup {xs : List PV} : ¬ ∀ h, fnIsi [.tup xs, .raw (.ty "tuple")] h = .ok (.bl false) h := fun a => by
  have := (isi_tt xs []).symm.trans (a [])
  simp at this
theorem all_in {n : Nat} : ∀ {xs : List PV}, xs.all (inZ ((n : Int) - 1)) = true → ∃ ks : List Nat, xs = ks.map nI ∧ ∀ k ∈ ks, k < n
  | [], _ => ⟨[], rfl, by simp⟩
  | x :: xs, h => by
    rw [List.all_cons, Bool.and_eq_true] at h
    obtain ⟨ks, e, hk⟩ := all_in h.2
    obtain ⟨i, rfl, h0, h1⟩ : ∃ i : Int, x = .int i ∧ 0 ≤ i ∧ i ≤ (n : Int) - 1 := by
      have := h.1
      unfold inZ at this
      split at this
      · rw [Bool.and_eq_true, decide_eq_true_iff, decide_eq_true_iff] at this
        exact ⟨_, rfl, this.1, this.2⟩
      · cases this
    obtain ⟨k, rfl⟩ : ∃ k : Nat, i = k := ⟨i.toNat, by omega⟩
    exact ⟨k :: ks, by rw [e]; rfl, fun j hj => by
      rcases List.mem_cons.mp hj with rfl | hj
      · omega
      · exact hk j hj⟩
theorem in_all {n : Nat} {ks : List Nat} (hk : ∀ k ∈ ks, k < n) : (ks.map nI).all (inZ ((n : Int) - 1)) = true := by
  rw [List.all_eq_true]
  intro x hx
  obtain ⟨k, hk', rfl⟩ := List.mem_map.mp hx
  have := hk k hk'
  unfold inZ
  rw [Bool.and_eq_true, decide_eq_true_iff, decide_eq_true_iff]
  omega
theorem nI_inj : ∀ {xs ys : List Nat}, xs.map nI = ys.map nI → xs = ys
  | [], [], _ => rfl
  | [], _ :: _, h => by cases h
  | _ :: _, [], h => by cases h
  | x :: xs, y :: ys, h => by
    rw [List.map_cons, List.map_cons, List.cons.injEq] at h
    have : (x : Int) = y := by
      have := h.1
      injection this
    rw [show x = y by omega, nI_inj h.2]
section
variable {ns : List Str} {L : List (Str × Nat × Nat)}
theorem line_set {y : PV} (gy : GY y) (h : AH) : ∃ b, m_is_line_set [netV ns L, y] h = .ok (.bl b) h ∧ (b = true ↔ ∃ ks : List Nat, y = .tup (ks.map nI) ∧ ks.Pairwise (· < ·) ∧ ∀ k ∈ ks, k < L.length) := by
  unfold m_is_line_set b_is_line_set
  let σ : ASt := [some (netV ns L), some y, none]
  rcases gy with ⟨xs, rfl, hf, hz⟩ | hn
  · have el := aLc_map (m := aItS (aVar 1)) (a := itVals xs) (vs := [2]) (g := gN 2) (t := tYes') (e := (aCall 3 m_integer_within (aCons (aVar 2) (aCons (aC (.int 0)) (aCons (aOp fSub (aFn fnLen (aCons (aOp fIx (aVar 0) (aC (.int 1))) (aNil))) (aC (.int 1))) (aNil)))))) (σ := [some (netV ns L), some (.tup xs), none]) (h := h) (h1 := h) (aItS_tup _ _ _ _ _ rfl) xs (fun x => .bl (inZ ((L.length : Int) - 1) x)) (Nat.le_refl _) (by omega) (fun _ _ _ => rfl) (fun x hx acc => by
      refine ⟨[some (netV ns L), some (.tup xs), some x], rfl, rfl, ?_⟩
      have ek : (aOp fSub (aFn fnLen (aCons (aOp fIx (aVar 0) (aC (.int 1))) (aNil))) (aC (.int 1))) [some (netV ns L), some (.tup xs), some x] (h ++ [AO.lst acc]) = .ok (.int ((L.length : Int) - 1)) (h ++ [AO.lst acc]) :=
        aOp_ok (aFn_ok (aCons_ok (l := aNil) (aOp_ok rfl rfl (net_1 ns L _)) rfl) (lenT (by simp) _)) rfl (fSub_i _ _ _)
      exact aCall_ok (aCons_ok rfl (aCons_ok rfl (aCons_ok ek rfl))) rfl (within (hf x hx) _ _))
    have ea : fnAll [.loc h.length] (h ++ [AO.lst (xs.map fun x => .bl (inZ ((L.length : Int) - 1) x))]) = .ok (.bl (xs.all (inZ ((L.length : Int) - 1)))) (h ++ [AO.lst (xs.map fun x => .bl (inZ ((L.length : Int) - 1) x))]) := by
      unfold fnAll
      simp only [lstOf_loc (getLast_app _ _), Option.bind_some, boolsOf_map]
      rw [List.all_map]; rfl
    have ec : (tCut (tOr (tNot (aTr (aFn fnIsi (aCons (aVar 1) (aCons (aC (.raw (.ty "tuple"))) (aNil)))))) (tNot (aTr (aFn fnAll (aCons (aLc (aItS (aVar 1)) [2] (gN 2) (tYes') (aCall 3 m_integer_within (aCons (aVar 2) (aCons (aC (.int 0)) (aCons (aOp fSub (aFn fnLen (aCons (aOp fIx (aVar 0) (aC (.int 1))) (aNil))) (aC (.int 1))) (aNil)))))) (aNil))))))) [some (netV ns L), some (.tup xs), none] h = .ok (!xs.all (inZ ((L.length : Int) - 1))) h :=
      tCut_ext ((tOr_f (h1 := h) (tNot_ok (b := true) (aTr_ok (aFn_ok rfl (isi_tt _ _))))).trans (tNot_ok (aTr_ok (aFn_ok (aCons_ok (l := aNil) el rfl) ea))))
    cases c : xs.all (inZ ((L.length : Int) - 1)) with
    | false =>
      rw [c] at ec
      refine ⟨false, (mDef_rt (σ := [some (netV ns L), some (.tup xs), none]) (h1 := h) (v := .bl false) (sSeq_rt ((sIf_t ec).trans rfl))).trans (finC_same rfl), ?_⟩
      refine ⟨fun h => absurd h (by decide), fun ⟨ks, e, _, hk⟩ => ?_⟩
      cases e
      rw [in_all hk] at c; cases c
    | true =>
      rw [c] at ec
      obtain ⟨ks, rfl, hk⟩ := all_in c
      let zs : List Int := ks.map fun k : Nat => (k : Int)
      have ez : ks.map nI = zs.map .int := nI_map ks
      have lz : zs.length < 64 := by simp [zs]; simp at hz; omega
      let H1 : AH := h ++ [AO.lst (zs.map .int)]
      let H2 : AH := H1 ++ [AO.lst ((srtZ zs).map .int)]
      have e1 : (aFn fnList (aCons (aVar 1) (aNil))) [some (netV ns L), some (.tup (ks.map nI)), none] h = .ok (.loc h.length) H1 := by
        rw [ez]; exact aFn_ok rfl (fnList_s (seqOf_tup _ _))
      have e2 : (aFn fnSortSet (aCons (aVar 1) (aNil))) [some (netV ns L), some (.tup (ks.map nI)), none] H1 = .ok (.loc H1.length) H2 := by
        rw [ez]
        refine aFn_ok rfl ?_
        unfold fnSortSet
        dsimp only
        rw [intsOf_map]
        dsimp only
        rw [if_pos lz]; rfl
      have g1' : H2[h.length]? = some (.lst (zs.map .int)) := by
        show (H1 ++ _)[h.length]? = _
        rw [List.getElem?_append_left (by simp [H1])]; exact getLast_app _ _
      have g2' : H2[H1.length]? = some (.lst ((srtZ zs).map .int)) := getLast_app _ _
      have e3 : fEqZ (.loc h.length) (.loc H1.length) H2 = .ok (.bl (decide (zs = srtZ zs))) H2 := by
        unfold fEqZ
        rw [lstOf_loc g1', lstOf_loc g2', Option.bind_some, Option.bind_some, intsOf_map, intsOf_map]
      refine ⟨decide (zs = srtZ zs), (mDef_rt (σ := [some (netV ns L), some (.tup (ks.map nI)), none]) (h1 := H2) (v := .bl (decide (zs = srtZ zs))) (sSeq_ok (σ1 := [some (netV ns L), some (.tup (ks.map nI)), none]) (h1 := h) ((sIf_f ec).trans rfl) (sRet_ok (aOp_ok e1 e2 e3)))).trans ?_, ?_⟩
      · show finC h.length h (h ++ [AO.lst (zs.map .int)] ++ [AO.lst ((srtZ zs).map .int)]) _ = _
        rw [List.append_assoc]
        exact finC_ext rfl
      · rw [decide_eq_true_iff]
        have pz : zs.Pairwise (· < ·) ↔ ks.Pairwise (· < ·) := by
          show (ks.map fun k : Nat => (k : Int)).Pairwise (· < ·) ↔ _
          rw [List.pairwise_map]
          exact ⟨fun h => h.imp fun h => by omega, fun h => h.imp fun h => by omega⟩
        constructor
        · intro e
          exact ⟨ks, rfl, pz.mp (e ▸ srtZ_lt zs), hk⟩
        · rintro ⟨js, e, hp, _⟩
          have : ks = js := nI_inj (by injection e)
          subst this
          exact strict_eq (pz.mpr hp) (srtZ_lt zs) fun k => (srtZ_mem k zs).symm
  · refine ⟨false, (mDef_rt (σ := [some (netV ns L), some y, none]) (h1 := h) (v := .bl false) (sSeq_rt ((sIf_t (tCut_ext (g := []) (by rw [List.append_nil]; exact tOr_t (tNot_ok (b := false) (aTr_ok (aFn_ok rfl (hn h))))))).trans rfl))).trans (finC_same rfl), ?_⟩
    refine ⟨fun h => absurd h (by decide), fun ⟨ks, e, _⟩ => ?_⟩
    subst e
    exact absurd hn not_tup
variable (lt : LtN ns.length L) (pos : 0 < ns.length) (n10 : ns.length ≤ 10) (l20 : L.length ≤ 20)
include lt pos n10 l20
theorem is_tree {y : PV} (gy : GY y) (h : AH) : ∃ b, m_is_tree [netV ns L, y] h = .ok (.bl b) h ∧ (b = true ↔ ∃ ks : List Nat, y = .tup (ks.map nI) ∧ Tree ns.length L ks) := by
  obtain ⟨b1, e1, h1⟩ := line_set (ns := ns) (L := L) gy h
  unfold m_is_tree b_is_tree
  have c1 : (tNot (aTr (aCall 2 m_is_line_set (aCons (aVar 0) (aCons (aVar 1) (aNil)))))) [some (netV ns L), some y] h = .ok (!b1) h := tNot_ok (aTr_ok (aCall_ok rfl rfl e1))
  have no : ∀ {x : PV}, y = x → (¬ ∃ ks : List Nat, y = .tup (ks.map nI) ∧ ks.Pairwise (· < ·) ∧ ∀ k ∈ ks, k < L.length) → ¬ ∃ ks : List Nat, y = .tup (ks.map nI) ∧ Tree ns.length L ks := fun _ n ⟨ks, e, T⟩ => n ⟨ks, e, by
    have := List.pairwise_and_iff.mpr ⟨T.srt, List.nodup_iff_pairwise_ne.mp T.nd⟩
    exact this.imp fun h => by omega, T.lt⟩
  cases b1 with
  | false =>
    have n1 : ¬ ∃ ks : List Nat, y = .tup (ks.map nI) ∧ ks.Pairwise (· < ·) ∧ ∀ k ∈ ks, k < L.length := fun q => by have := h1.mpr q; cases this
    refine ⟨false, (mDef_rt (σ := [some (netV ns L), some y]) (h1 := h) (v := .bl false) (sSeq_rt ((sIf_t (tOr_t c1)).trans rfl))).trans (finC_same rfl), fun h => absurd h (by decide), fun q => absurd q (no rfl n1)⟩
  | true =>
    obtain ⟨ks, rfl, hp, hk⟩ := h1.mp rfl
    have lns : fnLen [.tup (ns.map .str)] h = .ok (.int ns.length) h := lenT (by simp) h
    have c2 : (aB (aOp fNe (aFn fnLen (aCons (aVar 1) (aNil))) (aOp fSub (aFn fnLen (aCons (aOp fIx (aVar 0) (aC (.int 0))) (aNil))) (aC (.int 1))))) [some (netV ns L), some (.tup (ks.map nI))] h = .ok (!decide ((ks.length : Int) = (ns.length : Int) - 1)) h :=
      aB_ok (aOp_ok (aFn_ok rfl (lenT (by simp) _)) (aOp_ok (aFn_ok (aCons_ok (l := aNil) (aOp_ok rfl rfl (net_0 ns L _)) rfl) lns) rfl (fSub_i _ _ _)) (fNe_i _ _ _))
    have nd : ks.Nodup := List.nodup_iff_pairwise_ne.mpr (hp.imp fun h => by omega)
    have eT := fun k hk' => edg_lt lt (hk k hk')
    by_cases c : ks.length + 1 = ns.length
    · rw [decide_eq_true (by omega)] at c2
      obtain ⟨b, eb, hb⟩ := hangs lt pos n10 hk h
      refine ⟨b, (mDef_rt (σ := [some (netV ns L), some (.tup (ks.map nI))]) (h1 := h) (v := .bl b) (sSeq_ok (σ1 := [some (netV ns L), some (.tup (ks.map nI))]) (h1 := h) ((sIf_f ((tOr_f c1).trans c2)).trans rfl) (sRet_ok (aCall_ok rfl rfl eb)))).trans (finC_same rfl), ?_⟩
      rw [hb]
      constructor
      · intro a
        exact ⟨ks, rfl, hk, hp.imp fun h => by omega, nd, conn_fst pos eT nd a c, fun x y hx hy => (a x hx).sm.tr (a y hy)⟩
      · rintro ⟨js, e, T⟩ p hp'
        have : ks = js := nI_inj (by injection e)
        subst this
        exact T.cn 0 p pos hp'
    · rw [decide_eq_false (by omega)] at c2
      refine ⟨false, (mDef_rt (σ := [some (netV ns L), some (.tup (ks.map nI))]) (h1 := h) (v := .bl false) (sSeq_rt ((sIf_t ((tOr_f c1).trans c2)).trans rfl))).trans (finC_same rfl), fun h => absurd h (by decide), fun ⟨js, e, T⟩ => ?_⟩
      have : ks = js := nI_inj (by injection e)
      subst this
      exact absurd ((fst_len pos eT T.fst T.nd).2.mpr fun p hp => T.cn 0 p pos hp) c
end
end G12

namespace G12
open PySem PySem.Spec
open PyProof.Rows hiding St
open L2 AB MG
variable [Errs]
/-! the groups -/
def gm (a b s : Nat) : Nat := if s = a ∨ s = b then min a b else s
structure GL (e : Nat → Nat × Nat) (n : Nat) (js hs : List Nat) : Prop where
  li : LI e n js (gr e [] js) hs
  z : hs.getD 0 0 = 0
theorem GL.start (e : Nat → Nat × Nat) (n : Nat) : GL e n [] (List.range n) := ⟨LI.start n, by cases n <;> simp [List.range_succ_eq_map]⟩
theorem GL.skip {e : Nat → Nat × Nat} {n : Nat} {js hs : List Nat} (g : GL e n js hs) {k : Nat} (la : (e k).1 < n) (lb : (e k).2 < n) (h : hs.getD (e k).1 0 = hs.getD (e k).2 0) : GL e n (js ++ [k]) hs ∧ gr e [] (js ++ [k]) = gr e [] js := by
  have q := (gr_snoc (e := e) js [] k).1 (g.li.two _ _ la lb h)
  exact ⟨⟨by rw [q]; exact g.li.skip la lb h, g.z⟩, q⟩
theorem GL.join {e : Nat → Nat × Nat} {n : Nat} {js hs : List Nat} (g : GL e n js hs) {k : Nat} (la : (e k).1 < n) (lb : (e k).2 < n) (h : hs.getD (e k).1 0 ≠ hs.getD (e k).2 0) : GL e n (js ++ [k]) (hs.map (gm (hs.getD (e k).1 0) (hs.getD (e k).2 0))) ∧ gr e [] (js ++ [k]) = gr e [] js ++ [k] := by
  have q := (gr_snoc (e := e) js [] k).2 fun j => h (g.li.eq j)
  refine ⟨⟨?_, ?_⟩, q⟩
  · rw [q]
    refine g.li.join la lb h (m := min (hs.getD (e k).1 0) (hs.getD (e k).2 0)) (by omega) fun s => rfl
  · have z := g.z
    cases hs with
    | nil => rfl
    | cons x r =>
      have : x = 0 := z
      subst this
      show gm _ _ 0 = 0
      unfold gm
      split <;> omega
theorem grp_lc {m : AE} {σ : ASt} {h : AH} {hs : List Nat} {a b i j c : Nat} {B : AI} (eB : aItS m σ h = .ok B h) (nB : B.n = (hs.map nI).length) (xB : ∀ i g, B.nxt i g = some (hs.map nI)[i]?) (hz : hs.length ≤ 1000)
    (hg : ∀ (s : Nat) (G : AH), ∃ σ1, gN c (nI s) (wipeA σ [c]) G = some (σ1, G) ∧ (∀ G, aVar i σ1 G = .ok (nI a) G) ∧ (∀ G, aVar j σ1 G = .ok (nI b) G) ∧ ∀ G, aVar c σ1 G = .ok (nI s) G) :
    (aLc (aItS m) [c] (gN c) (tYes') (aIf (aB (aOp fIn (aVar c) (aTup (aCons (aVar i) (aCons (aVar j) (aNil)))))) (aFn fnMin (aCons (aVar i) (aCons (aVar j) (aNil)))) (aVar c))) σ h = .ok (.loc h.length) (h ++ [AO.lst ((hs.map (gm a b)).map nI)]) := by
  have el := aLc_map (vs := [c]) (g := gN c) (t := tYes') (e := (aIf (aB (aOp fIn (aVar c) (aTup (aCons (aVar i) (aCons (aVar j) (aNil)))))) (aFn fnMin (aCons (aVar i) (aCons (aVar j) (aNil)))) (aVar c))) eB (hs.map nI) (fun x => match x with | .int s => nI (gm a b s.toNat) | x => x) (by omega) (by simp; omega) (fun i acc _ => xB i _) (fun x hx acc => by
    obtain ⟨s, hs', rfl⟩ := List.mem_map.mp hx
    obtain ⟨σ1, e1, va, vb, vc⟩ := hg s (h ++ [AO.lst acc])
    refine ⟨σ1, e1, rfl, ?_⟩
    have et : (aTup (aCons (aVar i) (aCons (aVar j) (aNil)))) σ1 (h ++ [AO.lst acc]) = .ok (.tup ([a, b].map nI)) (h ++ [AO.lst acc]) := aTup_ok (aCons_ok (va _) (aCons_ok (vb _) rfl)) (by simp)
    have ec : (aB (aOp fIn (aVar c) (aTup (aCons (aVar i) (aCons (aVar j) (aNil)))))) σ1 (h ++ [AO.lst acc]) = .ok (decide (s ∈ [a, b])) (h ++ [AO.lst acc]) := aB_ok (aOp_ok (vc _) et (fIn_nn (seqOf_tup _ _)))
    show _ = Res.ok (nI (gm a b s)) _
    unfold gm
    by_cases d : s = a ∨ s = b
    · rw [decide_eq_true (by simpa using d)] at ec
      rw [if_pos d]
      refine (aIf_t ec).trans (aFn_ok (aCons_ok (va _) (aCons_ok (vb _) rfl)) ?_)
      show Res.ok (PV.int (if (b : Int) < a then (b : Int) else a)) _ = .ok (.int ((min a b : Nat) : Int)) _
      by_cases q : b < a
      · rw [if_pos (by omega), Nat.min_eq_right (by omega)]
      · rw [if_neg (by omega), Nat.min_eq_left (by omega)]
    · rw [decide_eq_false (by simpa using d)] at ec
      rw [if_neg d]
      exact (aIf_f ec).trans (vc _))
  have em : (hs.map nI).map (fun x => match x with | .int s => nI (gm a b s.toNat) | x => x) = (hs.map (gm a b)).map nI := by rw [List.map_map, List.map_map]; rfl
  rw [em] at el
  exact el
section
variable {ns : List Str} {L : List (Str × Nat × Nat)} (lt : LtN ns.length L) (n10 : ns.length ≤ 10)
include lt n10
theorem edg_at {L : List (Str × Nat × Nat)} {k : Nat} (h : AH) : fIx (.tup [.str (L.getD k ("", 0, 0)).1, .int (edg L k).1, .int (edg L k).2]) (.int 1) h = .ok (.int (edg L k).1) h ∧ fIx (.tup [.str (L.getD k ("", 0, 0)).1, .int (edg L k).1, .int (edg L k).2]) (.int 2) h = .ok (.int (edg L k).2) h := ⟨fIx_tup rfl, fIx_tup rfl⟩
omit lt n10 in
theorem ends_two {σ : ASt} {h : AH} {k g : Nat} (hk : k < L.length) {hv : PV} {hs : List Nat} (e0 : aVar 0 σ h = .ok (netV ns L) h) {il ig : Nat} (el : aVar il σ h = .ok (nI k) h) (eg : aVar ig σ h = .ok hv h) (ix : ∀ j, j < hs.length → fIx hv (nI j) h = .ok (nI (hs.getD j 0)) h) (ha : (edg L k).1 < hs.length) (hb : (edg L k).2 < hs.length) :
    (aTup (aCons (aOp fIx (aVar ig) (aOp fIx (aOp fIx (aOp fIx (aVar 0) (aC (.int 1))) (aVar il)) (aC (.int 1)))) (aCons (aOp fIx (aVar ig) (aOp fIx (aOp fIx (aOp fIx (aVar 0) (aC (.int 1))) (aVar il)) (aC (.int 2)))) (aNil)))) σ h = .ok (.tup [nI (hs.getD (edg L k).1 0), nI (hs.getD (edg L k).2 0)]) h := by
  have nk := net_k hk h
  have en : (aOp fIx (aOp fIx (aVar 0) (aC (.int 1))) (aVar il)) σ h = .ok (.tup [.str (L.getD k ("", 0, 0)).1, .int (edg L k).1, .int (edg L k).2]) h := aOp_ok (aOp_ok e0 rfl (net_1 _ _ _)) el nk
  exact aTup_ok (aCons_ok (aOp_ok eg (aOp_ok en rfl (fIx_tup rfl)) (ix _ ha)) (aCons_ok (aOp_ok eg (aOp_ok en rfl (fIx_tup rfl)) (ix _ hb)) rfl)) (by simp)
omit lt n10 in
theorem lst_ix {hs : List Nat} {j : Nat} (hj : j < hs.length) (h : AH) : fIx (.lst (hs.map nI)) (nI j) h = .ok (nI (hs.getD j 0)) h := fIx_lst (nI_get (by rw [List.getD_eq_getElem?_getD, List.getElem?_eq_getElem hj]; rfl))
theorem groups {js : List Nat} (hj : ∀ k ∈ js, k < L.length) (h : AH) : ∃ hs, m__law_groups [netV ns L, .tup (js.map nI)] h = .ok (.lst (hs.map nI)) h ∧ GL (edg L) ns.length js hs := by
  unfold m__law_groups b__law_groups
  let S : List Nat → Option PV → Option PV → Option PV → ASt := fun hs o3 o4 o5 => [some (netV ns L), some (.tup (js.map nI)), some (.lst (hs.map nI)), o3, o4, o5, none]
  have e2 : (aCut (aLstRg1 (aFn fnLen (aCons (aOp fIx (aVar 0) (aC (.int 0))) (aNil))))) (startA 7 [netV ns L, .tup (js.map nI)]) h = .ok (.lst ((List.range ns.length).map nI)) h :=
    (aCut_ok (aLstRg1_ok (n := ns.length) (aFn_ok (aCons_ok (aOp_ok rfl rfl (net_0 _ _ _)) rfl) (lenT (by simp) _)) (by omega))).trans (finC_ext (frz_new (Nat.le_refl _) (getLast_app _ _) (low_nI _ _)))
  obtain ⟨σ', eF, hs, o3, o4, o5, rfl, gl⟩ := for_at (a := itVals (js.map nI)) (g := gN 3) (b := (sSeq (sAsg (aTup (aCons (aOp fIx (aVar 2) (aOp fIx (aOp fIx (aOp fIx (aVar 0) (aC (.int 1))) (aVar 3)) (aC (.int 1)))) (aCons (aOp fIx (aVar 2) (aOp fIx (aOp fIx (aOp fIx (aVar 0) (aC (.int 1))) (aVar 3)) (aC (.int 2)))) (aNil)))) (gTup' 2 (gCons' (gN 4) (gCons' (gN 5) (gNil'))))) (sIf (aB (aOp fNe (aVar 4) (aVar 5))) (sSet 2 (aCut (aLc (aItS (aVar 2)) [6] (gN 6) (tYes') (aIf (aB (aOp fIn (aVar 6) (aTup (aCons (aVar 4) (aCons (aVar 5) (aNil)))))) (aFn fnMin (aCons (aVar 4) (aCons (aVar 5) (aNil)))) (aVar 6))))) (sNext)))) (js.map nI) h
    (fun i σ => ∃ (hs : List Nat) (o3 o4 o5 : Option PV), σ = S hs o3 o4 o5 ∧ GL (edg L) ns.length (js.take i) hs) rfl (fun _ => rfl)
    (σ := S (List.range ns.length) none none none) ⟨_, none, none, none, rfl, by rw [List.take_zero]; exact GL.start _ _⟩
    (fun i x σ ex ⟨hs, o3, o4, o5, e1, gl⟩ => by
      subst e1
      rw [List.getElem?_map] at ex
      obtain ⟨k, ek, rfl⟩ := Option.map_eq_some_iff.mp ex
      have kl := hj k (List.mem_of_getElem? ek)
      obtain ⟨la, lb⟩ := edg_lt lt kl
      have hl := gl.li.len
      have et := gr_take (e := edg L) ek
      let a := hs.getD (edg L k).1 0
      let b := hs.getD (edg L k).2 0
      let σ1 := S hs (some (nI k)) (some (nI a)) (some (nI b))
      have s1 := sAsg_ok (g := gTup' 2 (gCons' (gN 4) (gCons' (gN 5) (gNil')))) (h2 := h) (σ2 := σ1) (ends_two (ns := ns) (σ := S hs (some (nI k)) o4 o5) (h := h) (g := 0) (il := 3) (ig := 2) kl rfl rfl rfl (fun j hj => lst_ix hj h) (by omega) (by omega)) rfl
      have ec : (aB (aOp fNe (aVar 4) (aVar 5))) σ1 h = .ok (!decide ((a : Int) = b)) h := aB_ok (aOp_ok rfl rfl (fNe_i _ _ _))
      by_cases c : a = b
      · rw [decide_eq_true (by omega)] at ec
        obtain ⟨g1, _⟩ := gl.skip la lb c
        exact ⟨_, σ1, rfl, sSeq_ok s1 ((sIf_f ec).trans rfl), hs, _, _, _, rfl, by rw [et]; exact g1⟩
      · rw [decide_eq_false (by omega)] at ec
        obtain ⟨g1, _⟩ := gl.join la lb c
        obtain ⟨B, eB, nB, xB⟩ := aItS_lst (aVar 2) σ1 h h (hs.map nI) rfl
        have elc := grp_lc (m := aVar 2) (σ := σ1) (h := h) (hs := hs) (a := a) (b := b) (i := 4) (j := 5) (c := 6) eB nB xB (by omega) (fun s G => ⟨[some (netV ns L), some (.tup (js.map nI)), some (.lst (hs.map nI)), some (nI k), some (nI a), some (nI b), some (nI s)], rfl, fun _ => rfl, fun _ => rfl, fun _ => rfl⟩)
        exact ⟨_, S (hs.map (gm a b)) (some (nI k)) (some (nI a)) (some (nI b)), rfl, sSeq_ok s1 ((sIf_t ec).trans (sSet_ok ((aCut_ok elc).trans (finC_ext (frz_new (Nat.le_refl _) (getLast_app _ _) (low_nI _ _)))))), _, _, _, _, rfl, by rw [et]; exact g1⟩)
  rw [List.length_map, List.take_length] at gl
  refine ⟨hs, (mDef_rt (σ := S hs o3 o4 o5) (h1 := h) (v := .lst (hs.map nI)) ?_).trans (finC_same (low_nI _ _)), gl⟩
  refine sSeq_ok (σ1 := S (List.range ns.length) none none none) (h1 := h) (sSet_ok e2) ?_
  refine sSeq_ok (sFor_ok (aItS_tup _ _ _ _ _ rfl) eF) ?_
  exact sRet_ok rfl
theorem gl_whole {js hs : List Nat} (pos : 0 < ns.length) (g : GL (edg L) ns.length js hs) : (∃ hs', hs = 0 :: hs') ∧ ((∀ x ∈ hs, x = 0) ↔ ∀ p, p < ns.length → Jn (edg L) js 0 p) := by
  have hl := g.li.len
  have z := g.z
  constructor
  · cases hs with
    | nil => simp at hl; omega
    | cons x r => exact ⟨r, by have : x = 0 := z; rw [this]⟩
  · constructor
    · intro a p hp
      have : hs.getD p 0 = 0 := by
        rw [List.getD_eq_getElem?_getD, List.getElem?_eq_getElem (by omega)]
        exact a _ (List.getElem_mem _)
      exact g.li.span pos hp |>.mp (g.li.two 0 p pos hp (by rw [z, this]))
    · intro a x hx
      obtain ⟨i, hi, e⟩ := List.getElem_of_mem hx
      have q := g.li.agr (a i (by omega))
      rw [z, List.getD_eq_getElem?_getD, List.getElem?_eq_getElem hi, e] at q
      exact q.symm
theorem law_is_tree (pos : 0 < ns.length) {ks : List Nat} (hk : ∀ k ∈ ks, k < L.length) (hz : ks.length ≤ 1000) (h : AH) : ∃ b, m__law_is_tree [netV ns L, .tup (ks.map nI)] h = .ok (.bl b) h ∧ (b = true ↔ ks.length + 1 = ns.length ∧ ∀ p, p < ns.length → Jn (edg L) ks 0 p) := by
  obtain ⟨hs, eg, gl⟩ := groups lt n10 hk h
  obtain ⟨⟨hs', rfl⟩, gw⟩ := gl_whole lt n10 pos gl
  unfold m__law_is_tree b__law_is_tree
  have lns : fnLen [.tup (ns.map .str)] h = .ok (.int ns.length) h := lenT (by simp) h
  have c1 : (aOp fEq (aFn fnLen (aCons (aVar 1) (aNil))) (aOp fSub (aFn fnLen (aCons (aOp fIx (aVar 0) (aC (.int 0))) (aNil))) (aC (.int 1)))) [some (netV ns L), some (.tup (ks.map nI))] h = .ok (.bl (decide ((ks.length : Int) = (ns.length : Int) - 1))) h :=
    aOp_ok (aFn_ok rfl (lenT (by simp) _)) (aOp_ok (aFn_ok (aCons_ok (l := aNil) (aOp_ok rfl rfl (net_0 ns L _)) rfl) lns) rfl (fSub_i _ _ _)) (fEq_i _ _ _)
  have c2 : (aOp fEq (aFn fnMax (aCons (aCall 2 m__law_groups (aCons (aVar 0) (aCons (aVar 1) (aNil)))) (aNil))) (aC (.int 0))) [some (netV ns L), some (.tup (ks.map nI))] h = .ok (.bl (decide ((hs'.map fun n : Nat => (n : Int)).foldl max 0 = 0))) h := by
    refine aOp_ok (x := .int ((hs'.map fun n : Nat => (n : Int)).foldl max 0)) (h1 := h) (aFn_ok (aCons_ok (l := aNil) (aCall_ok rfl rfl eg) rfl) ?_) rfl (fEq_i _ _ _)
    rw [nI_map]
    show (match (lstOf (.lst (((0 :: hs').map fun n : Nat => (n : Int)).map PV.int)) h).bind intsOf with | some (n :: ns) => _ | _ => _) = _
    rw [lstOf_lst, Option.bind_some, intsOf_map]
    rfl
  have hw : ((hs'.map fun n : Nat => (n : Int)).foldl max 0 = 0) ↔ ∀ p, p < ns.length → Jn (edg L) ks 0 p := by
    rw [max0, ← gw]
    constructor
    · intro a x hx
      rcases List.mem_cons.mp hx with rfl | hx
      · rfl
      · exact a x hx
    · intro a x hx
      exact a x (List.mem_cons_of_mem _ hx)
  by_cases c : ks.length + 1 = ns.length
  · rw [decide_eq_true (by omega)] at c1
    refine ⟨_, (mDef_rt (σ := [some (netV ns L), some (.tup (ks.map nI))]) (h1 := h) (sRet_ok ((aAnd_t c1).trans c2))).trans (finC_same rfl), ?_⟩
    rw [decide_eq_true_iff, hw]
    exact ⟨fun a => ⟨c, a⟩, fun a => a.2⟩
  · rw [decide_eq_false (by omega)] at c1
    exact ⟨false, (mDef_rt (σ := [some (netV ns L), some (.tup (ks.map nI))]) (h1 := h) (sRet_ok (aAnd_f c1))).trans (finC_same rfl), fun h => absurd h (by decide), fun a => absurd a.1 c⟩
end
end G12

/-! MY: dicts by naturals -/
namespace AB
open PySem PySem.Spec
open PyProof.Rows hiding St
open L2
abbrev kI (n : Nat) : Key := Sum.inl (n : Int)
def dN (found : List Nat) (f : Nat → PV) : List (Key × PV) := found.map fun p => (kI p, f p)
theorem kI_eq {a b : Nat} : kI a = kI b ↔ a = b := by
  constructor
  · intro h; have := Sum.inl.inj h; omega
  · rintro rfl; rfl
theorem valP_dN {f : Nat → PV} {p : Nat} : ∀ {found : List Nat}, valP (dN found f) (kI p) = if p ∈ found then some (f p) else none
  | [] => rfl
  | q :: r => by
    have ih := valP_dN (f := f) (p := p) (found := r)
    unfold valP dN at ih ⊢
    rw [List.map_cons, List.find?_cons]
    by_cases c : q = p
    · subst c; simp
    · have : decide (kI q = kI p) = false := decide_eq_false fun h => c (kI_eq.mp h)
      simp only [this]
      rw [ih]
      have : (p ∈ q :: r) ↔ p ∈ r := by simp [Ne.symm c]
      simp only [this]
theorem putP_dN {f : Nat → PV} {p : Nat} {v : PV} {found : List Nat} (hp : p ∉ found) : putP (dN found f) (kI p) v = dN (found ++ [p]) (fun q => if q = p then v else f q) := by
  unfold putP
  rw [if_neg]
  · unfold dN
    rw [List.map_append]
    congr 1
    · refine List.map_congr_left fun q hq => ?_
      have : ¬ q = p := fun c => hp (c ▸ hq)
      simp [this]
    · simp
  · intro c
    obtain ⟨x, hx, e⟩ := List.any_eq_true.mp c
    obtain ⟨q, hq, rfl⟩ := List.mem_map.mp hx
    exact hp ((kI_eq.mp (of_decide_eq_true e)) ▸ hq)
theorem dN_congr {f g : Nat → PV} {found : List Nat} (h : ∀ p ∈ found, f p = g p) : dN found f = dN found g := List.map_congr_left fun p hp => by rw [h p hp]
theorem fDnin_n {found : List Nat} {f : Nat → PV} {n p : Nat} {h : AH} (e : h[n]? = some (.dK (dN found f))) : fDnin (.int p) (.loc n) h = .ok (.bl (!decide (p ∈ found))) h := by
  unfold fDnin
  simp only [e, keyP]
  rw [show (Sum.inl (p : Int) : Key) = kI p from rfl, valP_dN]
  by_cases c : p ∈ found
  · rw [if_pos c]; simp [c]
  · rw [if_neg c]; simp [c]
theorem fDin_n {found : List Nat} {f : Nat → PV} {n p : Nat} {h : AH} (e : h[n]? = some (.dK (dN found f))) : fDin (.int p) (.loc n) h = .ok (.bl (decide (p ∈ found))) h := by
  unfold fDin
  simp only [e, keyP]
  rw [show (Sum.inl (p : Int) : Key) = kI p from rfl, valP_dN]
  by_cases c : p ∈ found
  · rw [if_pos c]; simp [c]
  · rw [if_neg c]; simp [c]
theorem fDget_n {found : List Nat} {f : Nat → PV} {n p : Nat} {h : AH} (e : h[n]? = some (.dK (dN found f))) (hp : p ∈ found) : fDget (.loc n) (.int p) h = .ok (f p) h := by
  unfold fDget
  simp only [e, keyP]
  rw [show (Sum.inl (p : Int) : Key) = kI p from rfl, valP_dN, if_pos hp]
theorem sDput_ok {mo mi mv : AE} {σ : ASt} {h h1 h2 h3 : AH} {v : PV} {n p : Nat} {found : List Nat} {f : Nat → PV} (ev : mv σ h = .ok v h1) (eo : mo σ h1 = .ok (.loc n) h2) (ei : mi σ h2 = .ok (.int p) h3) (e : h3[n]? = some (.dK (dN found f))) (hp : p ∉ found) (hz : found.length < 1000000) :
    sDput mo mi mv σ h = .fin .nx σ (h3.set n (.dK (dN (found ++ [p]) (fun q => if q = p then v else f q)))) := by
  unfold sDput
  rw [ev, liftS_ok', eo, liftS_ok', ei, liftS_ok']
  simp only [e, keyP]
  rw [if_pos (size_lt (by unfold dN; rw [List.length_map]; omega)), show (Sum.inl (p : Int) : Key) = kI p from rfl, putP_dN hp]
theorem aDict1_ok {mk mv : AE} {σ : ASt} {h : AH} {p : Nat} {v : PV} (ek : ∀ g, mk σ g = .ok (.int p) g) (ev : ∀ g, mv σ g = .ok v g) : aDict1 mk mv σ h = .ok (.loc h.length) (h ++ [AO.dK (dN [p] (fun _ => v))]) := by
  unfold aDict1
  rw [ek, Res.bind_ok, ev, Res.bind_ok]
  have e : (h ++ [AO.dK []])[h.length]? = some (.dK []) := getLast_app _ _
  simp only [keyP, e]
  rw [set_last]; rfl
theorem apN0 {h j : AH} {xs : List Nat} {y : Nat} {n : Nat} (e : h.length = n) (hz : xs.length < 1000000) : mAppend (.loc n) [nI y] (h ++ AO.lst (xs.map nI) :: j) = .ok .non (h ++ AO.lst ((xs ++ [y]).map nI) :: j) := by rw [ap0 e (by simpa using hz), List.map_append]; rfl
theorem apN1 {h j : AH} {a : AO} {xs : List Nat} {y : Nat} {n : Nat} (e : h.length = n) (hz : xs.length < 1000000) : mAppend (.loc (n + 1)) [nI y] (h ++ a :: AO.lst (xs.map nI) :: j) = .ok .non (h ++ a :: AO.lst ((xs ++ [y]).map nI) :: j) := by rw [ap1 e (by simpa using hz), List.map_append]; rfl
theorem apN2 {h j : AH} {a b : AO} {xs : List Nat} {y : Nat} {n : Nat} (e : h.length = n) (hz : xs.length < 1000000) : mAppend (.loc (n + 2)) [nI y] (h ++ a :: b :: AO.lst (xs.map nI) :: j) = .ok .non (h ++ a :: b :: AO.lst ((xs ++ [y]).map nI) :: j) := by rw [ap2 e (by simpa using hz), List.map_append]; rfl
theorem lcV (f : Nat → PV → Option PV) (P : Nat → Bool) (V : Nat → PV) (hf : ∀ i k, f i (nI k) = if P k = true then some (V k) else none) : ∀ (ks : List Nat) (j : Nat), ((ks.map nI).zipIdx j).filterMap (fun p => f p.2 p.1) = (ks.filter P).map V
  | [], _ => rfl
  | k :: ks, j => by
    rw [List.map_cons, List.zipIdx_cons, List.filterMap_cons, lcV f P V hf ks (j + 1), hf]
    by_cases c : P k = true
    · rw [if_pos c, List.filter_cons_of_pos c]; rfl
    · rw [if_neg c, List.filter_cons_of_neg c]
theorem ext0 {h j : AH} {xs ys : List PV} {n m : Nat} (e : h.length = n) (e2 : (h ++ AO.lst xs :: j)[m]? = some (.lst ys)) (hz : xs.length + ys.length ≤ 1000000) : mExtend (.loc n) [.loc m] (h ++ AO.lst xs :: j) = .ok .non (h ++ AO.lst (xs ++ ys) :: j) := by
  unfold mExtend AB.ownOf
  simp only [g0 e, lstOf_loc e2]
  rw [if_pos (size_ok hz), put_eq, p0 e]
theorem for_nx {a : AI} {g : AG} {b : AS} {n i : Nat} {σ σ1 σ2 : ASt} {h h1 h2 : AH} {x : PV} (ex : a.nxt i h = some (some x)) (eg : g x σ h = some (σ1, h1)) (eb : b σ1 h1 = .fin .nx σ2 h2) : forA a g b (n + 1) i σ h = forA a g b n (i + 1) σ2 h2 := by
  rw [forA]; simp only [ex, eg, eb]
theorem for_end {a : AI} {g : AG} {b : AS} {n i : Nat} {σ : ASt} {h : AH} (ex : a.nxt i h = some none) : forA a g b n i σ h = .fin .nx σ h := by
  unfold forA; simp only [ex]
open MG in
theorem srt_way {e : Nat → Nat × Nat} {ks : List Nat} (ss : ks.Pairwise (· ≤ ·)) (nk : ks.Nodup) (f : Fst e ks) {a b : Nat} {p : List Nat} (w : Way e ks a p b) (nd : p.Nodup) : srtN p = onW e ks a b :=
  srtN_of (w.perm nk f nd).symm (ss.filter _)
open MG in
theorem srt_ring {e : Nat → Nat × Nat} {ks : List Nat} (ss : ks.Pairwise (· ≤ ·)) (nk : ks.Nodup) (f : Fst e ks) {a b k : Nat} {p : List Nat} (w : Way e ks a p b) (nd : p.Nodup) (hk : k ∉ ks) : (srtN (p ++ [k])).filter (fun j => !decide (j = k)) = onW e ks a b := by
  have q := (srtN_perm (p ++ [k])).filter fun j => !decide (j = k)
  have e1 : (p ++ [k]).filter (fun j => !decide (j = k)) = p := by
    rw [List.filter_append]
    have : p.filter (fun j => !decide (j = k)) = p := List.filter_eq_self.mpr fun x hx => by
      have : x ≠ k := fun c => hk (c ▸ w.mem x hx)
      simp [this]
    rw [this]; simp
  rw [e1] at q
  have r : ((srtN (p ++ [k])).filter fun j => !decide (j = k)).Perm (onW e ks a b) := q.trans (w.perm nk f nd)
  exact List.Perm.eq_of_pairwise (le := fun (a b : Nat) => a ≤ b) (fun a b _ _ h1 h2 => by omega) ((srtN_le _).filter _) (ss.filter _) r
end AB

namespace AB
open PySem PySem.Spec
open PyProof.Rows hiding St
open L2
mutual
def szP : PV → Nat
  | .tup xs => 1 + szPs xs
  | .lst xs => 1 + szPs xs
  | _ => 1
termination_by structural x => x
def szPs : List PV → Nat
  | [] => 0
  | v :: r => szP v + 1 + szPs r
termination_by structural x => x
end
mutual
def smP : PV → Bool
  | .tup xs => smPs xs
  | .lst xs => smPs xs
  | .non => true
  | .bl _ => true
  | .int _ => true
  | .str _ => true
  | _ => false
termination_by structural x => x
def smPs : List PV → Bool
  | [] => true
  | v :: r => smP v && smPs r
termination_by structural x => x
end
theorem szPs_app : ∀ a b : List PV, szPs (a ++ b) = szPs a + szPs b
  | [], b => by simp [szPs]
  | v :: a, b => by rw [List.cons_append, szPs, szPs_app a b, szPs]; omega
theorem smPs_app : ∀ a b : List PV, smPs (a ++ b) = (smPs a && smPs b)
  | [], b => by simp [smPs]
  | v :: a, b => by rw [List.cons_append, smPs, smPs_app a b, smPs, Bool.and_assoc]
theorem len_sz : ∀ a : List PV, a.length ≤ szPs a
  | [] => by simp
  | v :: a => by have := len_sz a; rw [szPs, List.length_cons]; omega
def prP (v : PV) : PV := .tup [v, v]
def mI (x : PV) : Nat := match x with
  | .tup (v :: _) => szP v + 1
  | _ => 0
theorem mI_sum : ∀ vs : List PV, ((vs.map prP).map mI).sum = szPs vs
  | [] => rfl
  | v :: vs => by
    rw [List.map_cons, List.map_cons, List.sum_cons, mI_sum vs, szPs]; rfl
theorem smPs_ints : ∀ ns : List Int, smPs (ns.map PV.int) = true
  | [] => rfl
  | n :: ns => by rw [List.map_cons, smPs, smPs_ints ns]; rfl
theorem szPs_ints : ∀ ns : List Int, szPs (ns.map PV.int) = 2 * ns.length
  | [] => rfl
  | n :: ns => by rw [List.map_cons, szPs, szPs_ints ns, List.length_cons]; show 1 + 1 + _ = _; omega
theorem i_nb (g : AH) : fnIsi [.int 0, .raw (.ty "bool")] g = .ok (.bl false) g := rfl
abbrev ty (s : String) : PV := .raw (.ty s)
theorem isi_bl (b : Bool) (g : AH) : fnIsi [.bl b, ty "bool"] g = .ok (.bl true) g := rfl
theorem isi_ib (i : Int) (g : AH) : fnIsi [.int i, ty "bool"] g = .ok (.bl false) g := rfl
theorem isi_ii (i : Int) (g : AH) : fnIsi [.int i, ty "int"] g = .ok (.bl true) g := rfl
theorem isi_sb (i : Str) (g : AH) : fnIsi [.str i, ty "bool"] g = .ok (.bl false) g := rfl
theorem isi_si (i : Str) (g : AH) : fnIsi [.str i, ty "int"] g = .ok (.bl false) g := rfl
theorem isi_ss (i : Str) (g : AH) : fnIsi [.str i, ty "str"] g = .ok (.bl true) g := rfl
theorem isi_tb (i : List PV) (g : AH) : fnIsi [.tup i, ty "bool"] g = .ok (.bl false) g := rfl
theorem isi_ti (i : List PV) (g : AH) : fnIsi [.tup i, ty "int"] g = .ok (.bl false) g := rfl
theorem isi_ts (i : List PV) (g : AH) : fnIsi [.tup i, ty "str"] g = .ok (.bl false) g := rfl
theorem isi_tt (i : List PV) (g : AH) : fnIsi [.tup i, ty "tuple"] g = .ok (.bl true) g := rfl
theorem isi_tl (i : List PV) (g : AH) : fnIsi [.tup i, ty "list"] g = .ok (.bl false) g := rfl
theorem isi_lb (i : List PV) (g : AH) : fnIsi [.lst i, ty "bool"] g = .ok (.bl false) g := rfl
theorem isi_li (i : List PV) (g : AH) : fnIsi [.lst i, ty "int"] g = .ok (.bl false) g := rfl
theorem isi_ls (i : List PV) (g : AH) : fnIsi [.lst i, ty "str"] g = .ok (.bl false) g := rfl
theorem isi_lt (i : List PV) (g : AH) : fnIsi [.lst i, ty "tuple"] g = .ok (.bl false) g := rfl
theorem isi_ll (i : List PV) (g : AH) : fnIsi [.lst i, ty "list"] g = .ok (.bl true) g := rfl
/-- the loop of a law's own comparison of a value with itself -/
theorem same_loop {W1 : AS} (hflat : ∀ (a b : PV) (k : Nat) (v : PV) (g : AH) (o : Option PV), (v = .non ∨ (∃ c, v = .bl c) ∨ (∃ c, v = .int c) ∨ ∃ c, v = .str c) → ∃ p, W1 [some a, some b, some (.loc k), some v, some v, o] g = .fin .nx [some a, some b, some (.loc k), some v, some v, p] g)
    (hseq : ∀ (a b : PV) (v : PV) (xs vs : List PV) (h j : AH) (o : Option PV), (v = .tup xs ∨ v = .lst xs) → xs.length + vs.length ≤ 100000 → ∃ j' p, W1 [some a, some b, some (.loc h.length), some v, some v, o] (h ++ AO.lst (vs.map prP) :: j) = .fin .nx [some a, some b, some (.loc h.length), some v, some v, p] (h ++ AO.lst ((vs ++ xs).map prP) :: j'))
    {v : PV} (sm : smP v = true) (hz : szP v ≤ 10000) (h : AH) : mDef false 6 (sSeq (sSet 2 (aLst (aCons (aTup (aCons (aVar 0) (aCons (aVar 1) (aNil)))) (aNil)))) (sSeq (sWhile (aB (aOp fGt (aFn fnLen (aCons (aVar 2) (aNil))) (aC (.int 0)))) (sSeq (sAsg (aM isL mPop (aVar 2) aNil) (gTup' 2 (gCons' (gN 3) (gCons' (gN 4) (gNil'))))) W1)) (sRet (aC (.bl true))))) [v, v] h = .ok (.bl true) h := by
  have loop := while_rule (c := aB (aOp fGt (aFn fnLen (aCons (aVar 2) (aNil))) (aC (.int 0)))) (b := sSeq (sAsg (aM isL mPop (aVar 2) aNil) (gTup' 2 (gCons' (gN 3) (gCons' (gN 4) (gNil'))))) W1)
    (fun σ g => ∃ (o3 o4 o5 : Option PV) (vs : List PV) (j : AH), σ = [some v, some v, some (.loc h.length), o3, o4, o5] ∧ g = h ++ AO.lst (vs.map prP) :: j ∧ smPs vs = true ∧ szPs vs ≤ 20000)
    (fun σ g => match g[h.length]? with | some (.lst xs) => (xs.map mI).sum | _ => 0)
    (fun r => ∃ (o3 o4 o5 : Option PV) (j : AH), r = .fin .nx [some v, some v, some (.loc h.length), o3, o4, o5] (h ++ j))
    (fun σ g ⟨o3, o4, o5, vs, j, e1, e2, s, z⟩ => by
      subst e1; subst e2
      have ec : (aB (aOp fGt (aFn fnLen (aCons (aVar 2) (aNil))) (aC (.int 0)))) [some v, some v, some (.loc h.length), o3, o4, o5] (h ++ AO.lst (vs.map prP) :: j) = .ok (decide ((0 : Int) < ((vs.map prP).length : Nat))) (h ++ AO.lst (vs.map prP) :: j) :=
        aB_ok (aOp_ok (aFn_ok rfl (fnLen_seq (seqOf_loc (by simp)))) rfl (fGt_i _ _ _))
      rcases List.eq_nil_or_concat vs with e | ⟨ws, w, e⟩
      · subst e
        exact .inl ⟨_, ec, o3, o4, o5, _, rfl⟩
      · subst e
        rw [List.concat_eq_append] at *
        rw [decide_eq_true (by simp)] at ec
        rw [smPs_app, Bool.and_eq_true] at s
        have sw : smP w = true := by have := s.2; rw [smPs, Bool.and_eq_true] at this; exact this.1
        rw [szPs_app] at z
        have z2 : szPs [w] = szP w + 1 := by rw [szPs, szPs]
        have lz := len_sz ws
        have pop : mPop (.loc h.length) [] (h ++ AO.lst ((ws ++ [w]).map prP) :: j) = .ok (prP w) (h ++ AO.lst (ws.map prP) :: j) := by
          unfold mPop
          have e : (h ++ AO.lst ((ws ++ [w]).map prP) :: j)[h.length]? = some (.lst ((ws ++ [w]).map prP)) := by simp
          simp only [e]
          simp [put, prP]
        have s1 : ∀ r : AS, sSeq (sAsg (aM isL mPop (aVar 2) aNil) (gTup' 2 (gCons' (gN 3) (gCons' (gN 4) (gNil'))))) r [some v, some v, some (.loc h.length), o3, o4, o5] (h ++ AO.lst ((ws ++ [w]).map prP) :: j) = r [some v, some v, some (.loc h.length), some w, some w, o5] (h ++ AO.lst (ws.map prP) :: j) := fun r =>
          sSeq_ok (sAsg_ok (aM_ok rfl (isL_loc (xs := (ws ++ [w]).map prP) (by simp)) rfl pop) rfl) rfl
        have μ1 : ∀ (us : List PV) (j : AH), (match (h ++ AO.lst (us.map prP) :: j)[h.length]? with | some (.lst xs) => (xs.map mI).sum | _ => 0) = szPs us := fun us j => by
          have e : (h ++ AO.lst (us.map prP) :: j)[h.length]? = some (.lst (us.map prP)) := by simp
          rw [e]; exact mI_sum us
        have flat : (w = .non ∨ (∃ c, w = .bl c) ∨ (∃ c, w = .int c) ∨ ∃ c, w = .str c) ∨ ∃ xs, (w = .tup xs ∨ w = .lst xs) ∧ smPs xs = true ∧ szP w = 1 + szPs xs := by
          cases w with
          | non => exact .inl (.inl rfl)
          | bl c => exact .inl (.inr (.inl ⟨c, rfl⟩))
          | int c => exact .inl (.inr (.inr (.inl ⟨c, rfl⟩)))
          | str c => exact .inl (.inr (.inr (.inr ⟨c, rfl⟩)))
          | tup xs => exact .inr ⟨xs, .inl rfl, by rw [smP] at sw; exact sw, by rw [szP]⟩
          | lst xs => exact .inr ⟨xs, .inr rfl, by rw [smP] at sw; exact sw, by rw [szP]⟩
          | ro xs => cases sw
          | loc n => cases sw
          | raw x => cases sw
        rcases flat with f | ⟨xs, hx, sx, zx⟩
        · obtain ⟨p, e⟩ := hflat v v h.length w (h ++ AO.lst (ws.map prP) :: j) o5 f
          refine .inr ⟨_, ec, .inl ⟨_, _, .inl ((s1 _).trans e), ⟨some w, some w, p, ws, j, rfl, rfl, s.1, by omega⟩, ?_⟩⟩
          rw [μ1, μ1, szPs_app]; omega
        · have lx := len_sz xs
          obtain ⟨j', p, e⟩ := hseq v v w xs ws h j o5 hx (by omega)
          refine .inr ⟨_, ec, .inl ⟨_, _, .inl ((s1 _).trans e), ⟨some w, some w, p, ws ++ xs, j', rfl, rfl, by rw [smPs_app, s.1, sx]; rfl, by rw [szPs_app]; omega⟩, ?_⟩⟩
          rw [μ1, μ1, szPs_app, szPs_app]; omega)
    (σ := [some v, some v, some (.loc h.length), none, none, none]) (h := h ++ [.lst ([v].map prP)]) ⟨none, none, none, [v], [], rfl, rfl, by rw [smPs, sm]; rfl, by rw [szPs, szPs]; omega⟩
  obtain ⟨o3, o4, o5, j, eW⟩ := loop
  refine (mDef_rt (σ := [some v, some v, some (.loc h.length), o3, o4, o5]) (h1 := h ++ j) (v := .bl true) ?_).trans (finC_ext rfl)
  exact sSeq_ok (sSet_ok (aLst_ok (xs := [prP v]) (aCons_ok (aTup_ok rfl (by simp)) rfl) (by simp))) (sSeq_ok eW rfl)
end AB

namespace AB
open PySem PySem.Spec
open PyProof.Rows hiding St
open L2
/-- the loop of a law's own comparison of a value with itself -/
theorem same_loopT {n : Nat} {W1 : AS} (hflat : ∀ (a b : PV) (k : Nat) (v : PV) (g : AH) (o : ASt), o.length = n → (v = .non ∨ (∃ c, v = .bl c) ∨ (∃ c, v = .int c) ∨ ∃ c, v = .str c) → ∃ p : ASt, p.length = n ∧ W1 (some a :: some b :: some (.loc k) :: some v :: some v :: o) g = .fin .nx (some a :: some b :: some (.loc k) :: some v :: some v :: p) g)
    (hseq : ∀ (a b : PV) (v : PV) (xs vs : List PV) (h j : AH) (o : ASt), o.length = n → (v = .tup xs ∨ v = .lst xs) → xs.length + vs.length ≤ 100000 → ∃ (j' : AH) (p : ASt), p.length = n ∧ W1 (some a :: some b :: some (.loc h.length) :: some v :: some v :: o) (h ++ AO.lst (vs.map prP) :: j) = .fin .nx (some a :: some b :: some (.loc h.length) :: some v :: some v :: p) (h ++ AO.lst ((vs ++ xs).map prP) :: j'))
    {v : PV} (sm : smP v = true) (hz : szP v ≤ 10000) (h : AH) : mDef false (n + 5) (sSeq (sSet 2 (aLst (aCons (aTup (aCons (aVar 0) (aCons (aVar 1) (aNil)))) (aNil)))) (sSeq (sWhile (aB (aOp fGt (aFn fnLen (aCons (aVar 2) (aNil))) (aC (.int 0)))) (sSeq (sAsg (aM isL mPop (aVar 2) aNil) (gTup' 2 (gCons' (gN 3) (gCons' (gN 4) (gNil'))))) W1)) (sRet (aC (.bl true))))) [v, v] h = .ok (.bl true) h := by
  have loop := while_rule (c := aB (aOp fGt (aFn fnLen (aCons (aVar 2) (aNil))) (aC (.int 0)))) (b := sSeq (sAsg (aM isL mPop (aVar 2) aNil) (gTup' 2 (gCons' (gN 3) (gCons' (gN 4) (gNil'))))) W1)
    (fun σ g => ∃ (o3 o4 : Option PV) (o5 : ASt) (vs : List PV) (j : AH), o5.length = n ∧ σ = (some v :: some v :: some (.loc h.length) :: o3 :: o4 :: o5) ∧ g = h ++ AO.lst (vs.map prP) :: j ∧ smPs vs = true ∧ szPs vs ≤ 20000)
    (fun σ g => match g[h.length]? with | some (.lst xs) => (xs.map mI).sum | _ => 0)
    (fun r => ∃ (o3 o4 : Option PV) (o5 : ASt) (j : AH), r = .fin .nx (some v :: some v :: some (.loc h.length) :: o3 :: o4 :: o5) (h ++ j))
    (fun σ g ⟨o3, o4, o5, vs, j, l5, e1, e2, s, z⟩ => by
      subst e1; subst e2
      have ec : (aB (aOp fGt (aFn fnLen (aCons (aVar 2) (aNil))) (aC (.int 0)))) (some v :: some v :: some (.loc h.length) :: o3 :: o4 :: o5) (h ++ AO.lst (vs.map prP) :: j) = .ok (decide ((0 : Int) < ((vs.map prP).length : Nat))) (h ++ AO.lst (vs.map prP) :: j) :=
        aB_ok (aOp_ok (aFn_ok rfl (fnLen_seq (seqOf_loc (by simp)))) rfl (fGt_i _ _ _))
      rcases List.eq_nil_or_concat vs with e | ⟨ws, w, e⟩
      · subst e
        exact .inl ⟨_, ec, o3, o4, o5, _, rfl⟩
      · subst e
        rw [List.concat_eq_append] at *
        rw [decide_eq_true (by simp)] at ec
        rw [smPs_app, Bool.and_eq_true] at s
        have sw : smP w = true := by have := s.2; rw [smPs, Bool.and_eq_true] at this; exact this.1
        rw [szPs_app] at z
        have z2 : szPs [w] = szP w + 1 := by rw [szPs, szPs]
        have lz := len_sz ws
        have pop : mPop (.loc h.length) [] (h ++ AO.lst ((ws ++ [w]).map prP) :: j) = .ok (prP w) (h ++ AO.lst (ws.map prP) :: j) := by
          unfold mPop
          have e : (h ++ AO.lst ((ws ++ [w]).map prP) :: j)[h.length]? = some (.lst ((ws ++ [w]).map prP)) := by simp
          simp only [e]
          simp [put, prP]
        have s1 : ∀ r : AS, sSeq (sAsg (aM isL mPop (aVar 2) aNil) (gTup' 2 (gCons' (gN 3) (gCons' (gN 4) (gNil'))))) r (some v :: some v :: some (.loc h.length) :: o3 :: o4 :: o5) (h ++ AO.lst ((ws ++ [w]).map prP) :: j) = r (some v :: some v :: some (.loc h.length) :: some w :: some w :: o5) (h ++ AO.lst (ws.map prP) :: j) := fun r =>
          sSeq_ok (sAsg_ok (aM_ok rfl (isL_loc (xs := (ws ++ [w]).map prP) (by simp)) rfl pop) rfl) rfl
        have μ1 : ∀ (us : List PV) (j : AH), (match (h ++ AO.lst (us.map prP) :: j)[h.length]? with | some (.lst xs) => (xs.map mI).sum | _ => 0) = szPs us := fun us j => by
          have e : (h ++ AO.lst (us.map prP) :: j)[h.length]? = some (.lst (us.map prP)) := by simp
          rw [e]; exact mI_sum us
        have flat : (w = .non ∨ (∃ c, w = .bl c) ∨ (∃ c, w = .int c) ∨ ∃ c, w = .str c) ∨ ∃ xs, (w = .tup xs ∨ w = .lst xs) ∧ smPs xs = true ∧ szP w = 1 + szPs xs := by
          cases w with
          | non => exact .inl (.inl rfl)
          | bl c => exact .inl (.inr (.inl ⟨c, rfl⟩))
          | int c => exact .inl (.inr (.inr (.inl ⟨c, rfl⟩)))
          | str c => exact .inl (.inr (.inr (.inr ⟨c, rfl⟩)))
          | tup xs => exact .inr ⟨xs, .inl rfl, by rw [smP] at sw; exact sw, by rw [szP]⟩
          | lst xs => exact .inr ⟨xs, .inr rfl, by rw [smP] at sw; exact sw, by rw [szP]⟩
          | ro xs => cases sw
          | loc n => cases sw
          | raw x => cases sw
        rcases flat with f | ⟨xs, hx, sx, zx⟩
        · obtain ⟨p, lp, e⟩ := hflat v v h.length w (h ++ AO.lst (ws.map prP) :: j) o5 l5 f
          refine .inr ⟨_, ec, .inl ⟨_, _, .inl ((s1 _).trans e), ⟨some w, some w, p, ws, j, lp, rfl, rfl, s.1, by omega⟩, ?_⟩⟩
          rw [μ1, μ1, szPs_app]; omega
        · have lx := len_sz xs
          obtain ⟨j', p, lp, e⟩ := hseq v v w xs ws h j o5 l5 hx (by omega)
          refine .inr ⟨_, ec, .inl ⟨_, _, .inl ((s1 _).trans e), ⟨some w, some w, p, ws ++ xs, j', lp, rfl, rfl, by rw [smPs_app, s.1, sx]; rfl, by rw [szPs_app]; omega⟩, ?_⟩⟩
          rw [μ1, μ1, szPs_app, szPs_app]; omega)
    (σ := (some v :: some v :: some (.loc h.length) :: none :: none :: List.replicate n none)) (h := h ++ [.lst ([v].map prP)]) ⟨none, none, List.replicate n none, [v], [], by simp, rfl, rfl, by rw [smPs, sm]; rfl, by rw [szPs, szPs]; omega⟩
  obtain ⟨o3, o4, o5, j, eW⟩ := loop
  refine (mDef_rt (σ := (some v :: some v :: some (.loc h.length) :: o3 :: o4 :: o5)) (h1 := h ++ j) (v := .bl true) ?_).trans (finC_ext rfl)
  have e0 : startA (n + 5) [v, v] = (some v :: some v :: none :: none :: none :: List.replicate n none) := by
    unfold startA; rfl
  rw [e0]
  exact sSeq_ok (sSet_ok (aLst_ok (xs := [prP v]) (aCons_ok (aTup_ok rfl (by simp)) rfl) (by simp))) (sSeq_ok eW rfl)
end AB

namespace G12
open PySem PySem.Spec
open PyProof.Rows hiding St
open L2 AB MG
variable [Errs]
noncomputable abbrev eX6 : AE := (aLc (aItR1 (aCons (aFn fnLen (aCons (aVar 4) (aNil))) (aNil))) [6] (gN 6) (tYes') (aTup (aCons (aOp fIx (aVar 3) (aVar 6)) (aCons (aOp fIx (aVar 4) (aVar 6)) (aNil)))))
noncomputable abbrev bdSq : AS := (sSeq (sSet 5 (aIf (aTr (aFn fnIsi (aCons (aVar 4) (aCons (aC (.raw (.ty "tuple"))) (aNil))))) (aFn fnIsi (aCons (aVar 3) (aCons (aC (.raw (.ty "tuple"))) (aNil)))) (aFn fnIsi (aCons (aVar 3) (aCons (aC (.raw (.ty "list"))) (aNil)))))) (sSeq (sSet 5 (aAnd (aVar 5) (aOp fEq (aFn fnLen (aCons (aVar 3) (aNil))) (aFn fnLen (aCons (aVar 4) (aNil)))))) (sIf (aTr (aVar 5)) (sExpr (aM isL mExtend (aVar 2) (aCons eX6 (aNil)))) (sNext))))
noncomputable abbrev bdI : AS := (sSet 5 (aAnd (aFn fnIsi (aCons (aVar 3) (aCons (aC (.raw (.ty "int"))) (aNil)))) (aAnd (aUn fNot (aFn fnIsi (aCons (aVar 3) (aCons (aC (.raw (.ty "bool"))) (aNil))))) (aOp fEq (aVar 3) (aVar 4)))))
noncomputable abbrev bdKnd : AS := (sIf (aB (aOp fIsN (aVar 4) (aC .non))) (sSet 5 (aOp fIsN (aVar 3) (aC .non))) (sIf (aTr (aFn fnIsi (aCons (aVar 4) (aCons (aC (.raw (.ty "bool"))) (aNil))))) (sSet 5 (aAnd (aFn fnIsi (aCons (aVar 3) (aCons (aC (.raw (.ty "bool"))) (aNil)))) (aOp fEq (aVar 3) (aVar 4)))) (sIf (aTr (aFn fnIsi (aCons (aVar 4) (aCons (aC (.raw (.ty "str"))) (aNil))))) (sSet 5 (aAnd (aFn fnIsi (aCons (aVar 3) (aCons (aC (.raw (.ty "str"))) (aNil)))) (aOp fEq (aVar 3) (aVar 4)))) (sIf (aTr (aFn fnIsi (aCons (aVar 4) (aCons (aC (.raw (.ty "int"))) (aNil))))) bdI bdSq))))
noncomputable abbrev bdOut : AS := (sIf (tNot (aTr (aVar 5))) (sRet (aC (.bl false))) (sNext))
noncomputable abbrev bdWS : AS := (sSeq bdKnd bdOut)
theorem out_t {a b c d e f : Option PV} {g : AH} : bdOut [a, b, c, d, e, some (.bl true), f] g = .fin .nx [a, b, c, d, e, some (.bl true), f] g := (sIf_f (h1 := g) (tNot_ok (b := true) (aTr_ok rfl))).trans rfl
theorem two_len {α : Type} {o : List α} (h : o.length = 2) : ∃ x y, o = [x, y] := by
  match o, h with
  | [x, y], _ => exact ⟨x, y, rfl⟩
theorem same_flat (a b : PV) (k : Nat) (v : PV) (g : AH) (o : ASt) (ho : o.length = 2) (hv : v = .non ∨ (∃ c, v = .bl c) ∨ (∃ c, v = .int c) ∨ ∃ c, v = .str c) :
    ∃ p : ASt, p.length = 2 ∧ bdWS (some a :: some b :: some (.loc k) :: some v :: some v :: o) g = .fin .nx (some a :: some b :: some (.loc k) :: some v :: some v :: p) g := by
  obtain ⟨o5, o6, rfl⟩ := two_len ho
  refine ⟨[some (.bl true), o6], rfl, ?_⟩
  refine sSeq_ok (σ1 := [some a, some b, some (.loc k), some v, some v, some (.bl true), o6]) (h1 := g) ?_ out_t
  rcases hv with rfl | ⟨c, rfl⟩ | ⟨c, rfl⟩ | ⟨c, rfl⟩
  · exact (sIf_t (h1 := g) rfl).trans (sSet_ok rfl)
  · exact (sIf_f (h1 := g) rfl).trans ((sIf_t (h1 := g) rfl).trans (sSet_ok ((aAnd_t (h1 := g) rfl).trans (aOp_ok rfl rfl (by rw [fEq_b]; simp)))))
  · exact (sIf_f (h1 := g) rfl).trans ((sIf_f (h1 := g) rfl).trans ((sIf_f (h1 := g) rfl).trans ((sIf_t (h1 := g) rfl).trans (sSet_ok ((aAnd_t (h1 := g) rfl).trans ((aAnd_t (h1 := g) rfl).trans (aOp_ok rfl rfl (by rw [fEq_i]; simp))))))))
  · exact (sIf_f (h1 := g) rfl).trans ((sIf_f (h1 := g) rfl).trans ((sIf_t (h1 := g) rfl).trans (sSet_ok ((aAnd_t (h1 := g) rfl).trans (aOp_ok rfl rfl (by rw [fEq_s]; simp))))))
theorem mExtend_ok {n m : Nat} {xs ys : List PV} {h : AH} (e1 : h[n]? = some (.lst xs)) (e2 : h[m]? = some (.lst ys)) (hz : xs.length + ys.length ≤ 1000000) : mExtend (.loc n) [.loc m] h = .ok .non (h.set n (.lst (xs ++ ys))) := by
  unfold mExtend AB.ownOf
  simp only [e1, lstOf_loc e2]
  rw [if_pos (size_ok hz)]; rfl
theorem same_seq (a b : PV) (v : PV) (xs vs : List PV) (h j : AH) (o : ASt) (ho : o.length = 2) (hv : v = .tup xs ∨ v = .lst xs) (hz : xs.length + vs.length ≤ 100000) :
    ∃ (j' : AH) (p : ASt), p.length = 2 ∧ bdWS (some a :: some b :: some (.loc h.length) :: some v :: some v :: o) (h ++ AO.lst (vs.map prP) :: j) = .fin .nx (some a :: some b :: some (.loc h.length) :: some v :: some v :: p) (h ++ AO.lst ((vs ++ xs).map prP) :: j') := by
  obtain ⟨o5, o6, rfl⟩ := two_len ho
  let S : Option PV → Option PV → ASt := fun o5 o6 => [some a, some b, some (.loc h.length), some v, some v, o5, o6]
  let g : AH := h ++ AO.lst (vs.map prP) :: j
  have sq : ∀ g, seqOf v g = some xs := fun g => by rcases hv with rfl | rfl <;> rfl
  have l0 : ∀ g, fnLen [v] g = .ok (.int xs.length) g := fun g => fnLen_seq (sq g)
  have ix : ∀ (i : Nat) x g, xs[i]? = some x → fIx v (.int i) g = .ok x g := fun i x g e => by
    rcases hv with rfl | rfl
    · exact fIx_tup (atI_nat e)
    · exact fIx_lst (atI_nat e)
  have el := aLc_map (m := aItR1 (aCons (aFn fnLen (aCons (aVar 4) (aNil))) (aNil))) (a := itRg 0 xs.length) (vs := [6]) (g := gN 6) (t := tYes') (e := aTup (aCons (aOp fIx (aVar 3) (aVar 6)) (aCons (aOp fIx (aVar 4) (aVar 6)) (aNil)))) (σ := S (some (.bl true)) o6) (h := g) (h1 := g)
    (aItR1_ok (j := xs.length) (aCons_ok (aFn_ok rfl (l0 _)) rfl) (by omega) (by omega)) ((List.range xs.length).map nI) (fun x => match x with | .int i => prP (xs.getD i.toNat .non) | x => x) (by simp [itRg]) (by simp; omega) (fun i acc _ => itRg_nxt _ _ _)
    (fun x hx acc => by
      obtain ⟨i, hi, rfl⟩ := List.mem_map.mp hx
      have il : i < xs.length := by simpa using hi
      have ex : xs[i]? = some (xs.getD i .non) := by simp [il]
      exact ⟨S (some (.bl true)) (some (nI i)), rfl, rfl, aTup_ok (aCons_ok (aOp_ok rfl rfl (ix i _ _ ex)) (aCons_ok (aOp_ok rfl rfl (ix i _ _ ex)) rfl)) (by simp)⟩)
  have em : ((List.range xs.length).map nI).map (fun x => match x with | .int i => prP (xs.getD i.toNat .non) | x => x) = xs.map prP := by
    rw [List.map_map]
    refine List.ext_getElem? fun i => ?_
    by_cases c : i < xs.length
    · simp [c]
    · simp [c]
  rw [em] at el
  have eg : g ++ [AO.lst (xs.map prP)] = h ++ AO.lst (vs.map prP) :: (j ++ [AO.lst (xs.map prP)]) := by simp [g]
  have ex : mExtend (.loc h.length) [.loc g.length] (g ++ [AO.lst (xs.map prP)]) = .ok .non (h ++ AO.lst ((vs ++ xs).map prP) :: (j ++ [AO.lst (xs.map prP)])) := by
    rw [mExtend_ok (n := h.length) (xs := vs.map prP) (by rw [eg]; exact g0 rfl) (getLast_app _ _) (by simp; omega), eg, p0 rfl, List.map_append]
  refine ⟨j ++ [AO.lst (xs.map prP)], [some (.bl true), o6], rfl, ?_⟩
  refine sSeq_ok (σ1 := S (some (.bl true)) o6) (h1 := h ++ AO.lst ((vs ++ xs).map prP) :: (j ++ [AO.lst (xs.map prP)])) ?_ out_t
  have tl : (sSeq (sSet 5 (aAnd (aVar 5) (aOp fEq (aFn fnLen (aCons (aVar 3) (aNil))) (aFn fnLen (aCons (aVar 4) (aNil)))))) (sIf (aTr (aVar 5)) (sExpr (aM isL mExtend (aVar 2) (aCons eX6 (aNil)))) (sNext))) (S (some (.bl true)) o6) g = .fin .nx (S (some (.bl true)) o6) (h ++ AO.lst ((vs ++ xs).map prP) :: (j ++ [AO.lst (xs.map prP)])) := by
    refine sSeq_ok (σ1 := S (some (.bl true)) o6) (h1 := g) (sSet_ok ((aAnd_t (h1 := g) rfl).trans (aOp_ok (aFn_ok rfl (l0 _)) (aFn_ok rfl (l0 _)) (by rw [fEq_i]; simp)))) ?_
    exact (sIf_t (h1 := g) rfl).trans (sExpr_ok (aM_ok rfl (isL0 rfl) (aCons_ok (l := aNil) el rfl) ex))
  rcases hv with rfl | rfl
  · exact (sIf_f (h1 := g) rfl).trans ((sIf_f (h1 := g) rfl).trans ((sIf_f (h1 := g) rfl).trans ((sIf_f (h1 := g) rfl).trans (sSeq_ok (σ1 := S (some (.bl true)) o6) (h1 := g) (sSet_ok ((aIf_t (h1 := g) rfl).trans rfl)) tl))))
  · exact (sIf_f (h1 := g) rfl).trans ((sIf_f (h1 := g) rfl).trans ((sIf_f (h1 := g) rfl).trans ((sIf_f (h1 := g) rfl).trans (sSeq_ok (σ1 := S (some (.bl true)) o6) (h1 := g) (sSet_ok ((aIf_f (h1 := g) rfl).trans rfl)) tl))))
theorem same {v : PV} (sm : smP v = true) (hz : szP v ≤ 10000) (h : AH) : m__law_same [v, v] h = .ok (.bl true) h := by
  unfold m__law_same b__law_same
  exact same_loopT (n := 2) (W1 := bdWS) same_flat same_seq sm hz h
/-! a thing and a number -/
def eqI (m : Int) : PV → Bool
  | .int i => decide (i = m)
  | _ => false
theorem one_int {x : PV} (hx : fl x = true) (m : Int) (a b c : PV) (o5 o6 : Option PV) (g : AH) :
    bdKnd [some a, some b, some c, some x, some (.int m), o5, o6] g = .fin .nx [some a, some b, some c, some x, some (.int m), some (.bl (eqI m x)), o6] g := by
  refine (sIf_f (h1 := g) rfl).trans ((sIf_f (h1 := g) rfl).trans ((sIf_f (h1 := g) rfl).trans ((sIf_t (h1 := g) rfl).trans (sSet_ok ?_))))
  cases x with
  | int i => exact (aAnd_t (h1 := g) rfl).trans ((aAnd_t (h1 := g) rfl).trans (aOp_ok rfl rfl (fEq_i _ _ _)))
  | bl k => exact (aAnd_t (h1 := g) rfl).trans ((aAnd_f (h1 := g) rfl).trans rfl)
  | str k => exact (aAnd_f (h1 := g) rfl).trans rfl
  | non => exact (aAnd_f (h1 := g) rfl).trans rfl
  | tup k => exact (aAnd_f (h1 := g) rfl).trans rfl
  | lst k => exact (aAnd_f (h1 := g) rfl).trans rfl
  | ro k => cases hx
  | loc k => cases hx
  | raw k => cases hx
theorem same_int {x : PV} (hx : fl x = true) (m : Int) (h : AH) : m__law_same [x, .int m] h = .ok (.bl (eqI m x)) h := by
  unfold m__law_same b__law_same
  let P : PV := .tup [x, .int m]
  let S : Option PV → Option PV → Option PV → Option PV → ASt := fun o3 o4 o5 o6 => [some x, some (.int m), some (.loc h.length), o3, o4, o5, o6]
  have loop := while_rule (c := aB (aOp fGt (aFn fnLen (aCons (aVar 2) (aNil))) (aC (.int 0)))) (b := sSeq (sAsg (aM isL mPop (aVar 2) aNil) (gTup' 2 (gCons' (gN 3) (gCons' (gN 4) (gNil'))))) bdWS)
    (fun σ g => (σ = S none none none none ∧ g = h ++ [AO.lst [P]]) ∨ (eqI m x = true ∧ ∃ o3 o4 o5 o6, σ = S o3 o4 o5 o6 ∧ g = h ++ [AO.lst []]))
    (fun _ g => match g[h.length]? with | some (.lst l) => l.length | _ => 0)
    (fun r => ∃ σ g, (r = .fin (.rt (.bl false)) σ (h ++ g) ∧ eqI m x = false) ∨ (r = .fin .nx σ (h ++ g) ∧ eqI m x = true))
    (fun σ g hI => by
      rcases hI with ⟨e1, e2⟩ | ⟨ei, o3, o4, o5, o6, e1, e2⟩
      · subst e1; subst e2
        have ec : (aB (aOp fGt (aFn fnLen (aCons (aVar 2) (aNil))) (aC (.int 0)))) (S none none none none) (h ++ [AO.lst [P]]) = .ok true (h ++ [AO.lst [P]]) := aB_ok (aOp_ok (aFn_ok rfl (len0 rfl)) rfl (fGt_i _ _ _))
        have pop : mPop (.loc h.length) [] (h ++ [AO.lst [P]]) = .ok P (h ++ [AO.lst []]) := pop0 (xs := []) rfl
        have s1 : (sAsg (aM isL mPop (aVar 2) aNil) (gTup' 2 (gCons' (gN 3) (gCons' (gN 4) (gNil'))))) (S none none none none) (h ++ [AO.lst [P]]) = .fin .nx (S (some x) (some (.int m)) none none) (h ++ [AO.lst []]) := sAsg_ok (aM_ok rfl (isL0 rfl) rfl pop) rfl
        have s2 := one_int hx m x (.int m) (.loc h.length) none none (h ++ [AO.lst []])
        cases ei : eqI m x with
        | true =>
          rw [ei] at s2
          refine .inr ⟨_, ec, .inl ⟨_, _, .inl (sSeq_ok s1 (sSeq_ok s2 out_t)), .inr ⟨rfl, _, _, _, _, rfl, rfl⟩, ?_⟩⟩
          simp
        | false =>
          rw [ei] at s2
          have s3 : bdOut [some x, some (.int m), some (.loc h.length), some x, some (.int m), some (.bl false), none] (h ++ [AO.lst []]) = .fin (.rt (.bl false)) [some x, some (.int m), some (.loc h.length), some x, some (.int m), some (.bl false), none] (h ++ [AO.lst []]) := (sIf_t (tNot_ok (b := false) (aTr_ok rfl))).trans rfl
          exact .inr ⟨_, ec, .inr (.inr ⟨.bl false, _, _, sSeq_ok s1 (sSeq_ok s2 s3), _, [AO.lst []], .inl ⟨rfl, rfl⟩⟩)⟩
      · subst e1; subst e2
        have ec : (aB (aOp fGt (aFn fnLen (aCons (aVar 2) (aNil))) (aC (.int 0)))) (S o3 o4 o5 o6) (h ++ [AO.lst []]) = .ok false (h ++ [AO.lst []]) := aB_ok (aOp_ok (aFn_ok rfl (len0 rfl)) rfl (fGt_i _ _ _))
        exact .inl ⟨_, ec, _, [AO.lst []], .inr ⟨rfl, ei⟩⟩)
    (σ := S none none none none) (h := h ++ [AO.lst [P]]) (.inl ⟨rfl, rfl⟩)
  have s0 : (sSet 2 (aLst (aCons (aTup (aCons (aVar 0) (aCons (aVar 1) (aNil)))) (aNil)))) (startA 7 [x, .int m]) h = .fin .nx (S none none none none) (h ++ [AO.lst [P]]) := sSet_ok (aLst_ok (xs := [P]) (aCons_ok (aTup_ok (xs := [x, .int m]) rfl (by simp)) rfl) (by simp))
  obtain ⟨σ, g, ⟨e, ei⟩ | ⟨e, ei⟩⟩ := loop
  · rw [ei]
    exact (mDef_rt (σ := σ) (h1 := h ++ g) (v := .bl false) (sSeq_ok s0 (sSeq_rt e))).trans (finC_ext rfl)
  · rw [ei]
    exact (mDef_rt (σ := σ) (h1 := h ++ g) (v := .bl true) (sSeq_ok s0 (sSeq_ok e rfl))).trans (finC_ext rfl)
end G12

namespace G12
open PySem PySem.Spec
open PyProof.Rows hiding St
open L2 AB MG
variable [Errs]
/-! is a thing a state, by the law -/
def gAt (n : Nat) (xs : List PV) (i : Nat) : Bool := match xs[i]? with
  | some (.int z) => decide (0 ≤ z) && decide (z < (n : Int)) && (decide (i = 0) || match xs[i - 1]? with
    | some (.int w) => decide (w < z)
    | _ => false)
  | _ => false
theorem gAt_all {n : Nat} {xs : List PV} : (∀ i, i < xs.length → gAt n xs i = true) ↔ ∃ ks : List Nat, xs = ks.map nI ∧ ks.Pairwise (· < ·) ∧ ∀ k ∈ ks, k < n := by
  constructor
  · intro a
    have c : xs.all (inZ ((n : Int) - 1)) = true := by
      rw [List.all_eq_true]
      intro x hx
      obtain ⟨i, hi, e⟩ := List.getElem_of_mem hx
      have := a i hi
      unfold gAt at this
      rw [List.getElem?_eq_getElem hi, e] at this
      cases x with
      | int z =>
        simp only [Bool.and_eq_true, decide_eq_true_eq] at this
        unfold inZ
        simp only [Bool.and_eq_true, decide_eq_true_eq]
        omega
      | _ => cases this
    obtain ⟨ks, rfl, hk⟩ := all_in c
    refine ⟨ks, rfl, ?_, hk⟩
    have nx : ∀ i (h : i + 1 < ks.length), ks[i]'(by omega) < ks[i + 1] := fun i hi => by
      have := a (i + 1) (by simpa using hi)
      unfold gAt at this
      rw [List.getElem?_map, List.getElem?_eq_getElem hi] at this
      simp only [Option.map_some, Bool.and_eq_true, decide_eq_true_eq, Bool.or_eq_true] at this
      rcases this.2 with q | q
      · omega
      · rw [Nat.add_sub_cancel, List.getElem?_map, List.getElem?_eq_getElem (by omega)] at q
        simp only [Option.map_some, decide_eq_true_eq] at q
        omega
    rw [List.pairwise_iff_getElem]
    have key : ∀ (d i : Nat) (h : i + d + 1 < ks.length), ks[i]'(by omega) < ks[i + d + 1] := by
      intro d
      induction d with
      | zero => intro i h; exact nx i h
      | succ d ih =>
        intro i h
        have h1 := ih i (by omega)
        have h2 := nx (i + d + 1) (by omega)
        have e : i + (d + 1) + 1 = i + d + 1 + 1 := by omega
        simp only [e]
        omega
    intro i j hi hj hij
    have := key (j - i - 1) i (by omega)
    have e : i + (j - i - 1) + 1 = j := by omega
    simpa only [e] using this
  · rintro ⟨ks, rfl, hp, hk⟩ i hi
    rw [List.length_map] at hi
    have := hk ks[i] (List.getElem_mem hi)
    unfold gAt
    rw [List.getElem?_map, List.getElem?_eq_getElem hi]
    simp only [Option.map_some, Bool.and_eq_true, decide_eq_true_eq, Bool.or_eq_true]
    refine ⟨⟨by omega, by omega⟩, ?_⟩
    by_cases c : i = 0
    · exact .inl c
    · refine .inr ?_
      rw [List.getElem?_map, List.getElem?_eq_getElem (by omega)]
      simp only [Option.map_some, decide_eq_true_eq]
      have := (List.pairwise_iff_getElem.mp hp) (i - 1) i (by omega) hi (by omega)
      omega
def tyI : PV → Bool
  | .int _ => true
  | .bl _ => true
  | _ => false
def tyB : PV → Bool
  | .bl _ => true
  | _ => false
theorem isi_in {x : PV} (hx : fl x = true) (h : AH) : fnIsi [x, .raw (.ty "int")] h = .ok (.bl (tyI x)) h ∧ fnIsi [x, .raw (.ty "bool")] h = .ok (.bl (tyB x)) h := by
  cases x <;> first | exact ⟨rfl, rfl⟩ | cases hx
noncomputable abbrev bdSt : AS := (sSeq (sIf (tOr (tNot (aTr (aFn fnIsi (aCons (aOp fIx (aVar 1) (aVar 2)) (aCons (aC (.raw (.ty "int"))) (aNil)))))) (tOr (aTr (aFn fnIsi (aCons (aOp fIx (aVar 1) (aVar 2)) (aCons (aC (.raw (.ty "bool"))) (aNil))))) (tNot (aB (aChain fLe fLt (aC (.int 0)) (aOp fIx (aVar 1) (aVar 2)) (aFn fnLen (aCons (aOp fIx (aVar 0) (aC (.int 1))) (aNil)))))))) (sRet (aC (.bl false))) (sNext)) (sIf (tAnd (aB (aOp fGt (aVar 2) (aC (.int 0)))) (aB (aOp fLe (aOp fIx (aVar 1) (aVar 2)) (aOp fIx (aVar 1) (aOp fSub (aVar 2) (aC (.int 1))))))) (sRet (aC (.bl false))) (sNext)))
section
variable {ns : List Str} {L : List (Str × Nat × Nat)}
theorem st_at {xs : List PV} (hf : ∀ x ∈ xs, fl x = true) {i : Nat} (hi : i < xs.length) (pr : 0 < i → ∃ w, xs[i - 1]? = some (.int w)) (h : AH) :
    bdSt [some (netV ns L), some (.tup xs), some (nI i)] h = (if gAt L.length xs i = true then .fin .nx [some (netV ns L), some (.tup xs), some (nI i)] h else .fin (.rt (.bl false)) [some (netV ns L), some (.tup xs), some (nI i)] h) := by
  let σ : ASt := [some (netV ns L), some (.tup xs), some (nI i)]
  have ex : (aOp fIx (aVar 1) (aVar 2)) σ h = .ok xs[i] h := aOp_ok rfl rfl (fIx_tup (atI_nat (List.getElem?_eq_getElem hi)))
  have fx := hf _ (List.getElem_mem hi)
  obtain ⟨k1, k2⟩ := isi_in fx h
  have c1 : (tNot (aTr (aFn fnIsi (aCons (aOp fIx (aVar 1) (aVar 2)) (aCons (aC (.raw (.ty "int"))) (aNil)))))) σ h = .ok (!(tyI xs[i])) h := tNot_ok (aTr_ok (aFn_ok (aCons_ok ex rfl) k1))
  have c2 : (aTr (aFn fnIsi (aCons (aOp fIx (aVar 1) (aVar 2)) (aCons (aC (.raw (.ty "bool"))) (aNil))))) σ h = .ok (tyB xs[i]) h := aTr_ok (aFn_ok (aCons_ok ex rfl) k2)
  by_cases hI : isI xs[i] = true
  · obtain ⟨z, ez⟩ : ∃ z, xs[i] = .int z := by
      generalize xs[i] = x at hI
      cases x <;> first | exact ⟨_, rfl⟩ | cases hI
    rw [ez] at c1 c2 ex
    have c3 : (tNot (aB (aChain fLe fLt (aC (.int 0)) (aOp fIx (aVar 1) (aVar 2)) (aFn fnLen (aCons (aOp fIx (aVar 0) (aC (.int 1))) (aNil)))))) σ h = .ok (!(decide (0 ≤ z) && decide (z < (L.length : Int)))) h := by
      refine tNot_ok (aB_ok ?_)
      rw [aChain_eq, show aC (.int 0) σ h = .ok (.int 0) h from rfl, Res.bind_ok, ex, Res.bind_ok, fLe_i, Res.bind_ok]
      cases c : decide (0 ≤ z) with
      | false => rfl
      | true =>
        dsimp only
        rw [aFn_ok (aCons_ok (l := aNil) (aOp_ok (a := aVar 0) (b := aC (.int 1)) rfl rfl (net_1 ns L h)) rfl) (lenT (n := L.length) (by simp) h), Res.bind_ok, fLt_i, Bool.true_and]
    have cc := (tOr_f c1).trans ((tOr_f c2).trans c3)
    by_cases g1 : (0 ≤ z ∧ z < (L.length : Int))
    · rw [decide_eq_true g1.1, decide_eq_true g1.2] at cc
      have s1 : (sIf (tOr (tNot (aTr (aFn fnIsi (aCons (aOp fIx (aVar 1) (aVar 2)) (aCons (aC (.raw (.ty "int"))) (aNil)))))) (tOr (aTr (aFn fnIsi (aCons (aOp fIx (aVar 1) (aVar 2)) (aCons (aC (.raw (.ty "bool"))) (aNil))))) (tNot (aB (aChain fLe fLt (aC (.int 0)) (aOp fIx (aVar 1) (aVar 2)) (aFn fnLen (aCons (aOp fIx (aVar 0) (aC (.int 1))) (aNil)))))))) (sRet (aC (.bl false))) (sNext)) σ h = .fin .nx σ h := (sIf_f cc).trans rfl
      have d1 : (aB (aOp fGt (aVar 2) (aC (.int 0)))) σ h = .ok (decide ((0 : Int) < (i : Nat))) h := aB_ok (aOp_ok rfl rfl (fGt_i _ _ _))
      refine (sSeq_ok s1 rfl).trans ?_
      by_cases i0 : i = 0
      · have : gAt L.length xs i = true := by
          unfold gAt
          rw [List.getElem?_eq_getElem hi, ez]
          simp [g1.1, g1.2, i0]
        rw [if_pos this]
        rw [decide_eq_false (by omega)] at d1
        exact (sIf_f (tAnd_f d1)).trans rfl
      · obtain ⟨w, ew⟩ := pr (by omega)
        rw [decide_eq_true (by omega)] at d1
        have e3 : (aOp fSub (aVar 2) (aC (.int 1))) σ h = .ok (nI (i - 1)) h := (aOp_ok (x := .int i) (y := .int 1) rfl rfl (fSub_i _ _ _)).trans (by rw [show ((i : Int) - 1) = ((i - 1 : Nat) : Int) by omega])
        have d2 : (aB (aOp fLe (aOp fIx (aVar 1) (aVar 2)) (aOp fIx (aVar 1) (aOp fSub (aVar 2) (aC (.int 1)))))) σ h = .ok (decide (z ≤ w)) h := aB_ok (aOp_ok ex (aOp_ok rfl e3 (fIx_tup (atI_nat ew))) (fLe_i _ _ _))
        have gg : gAt L.length xs i = decide (w < z) := by
          unfold gAt
          rw [List.getElem?_eq_getElem hi, ez]
          simp [g1.1, g1.2, i0, ew]
        rw [gg]
        by_cases c : w < z
        · rw [decide_eq_false (by omega)] at d2
          rw [if_pos (decide_eq_true c)]
          exact (sIf_f ((tAnd_t d1).trans d2)).trans rfl
        · rw [decide_eq_true (by omega)] at d2
          rw [if_neg (by rw [decide_eq_false c]; decide)]
          exact (sIf_t ((tAnd_t d1).trans d2)).trans rfl
    · have gg : gAt L.length xs i = false := by
        unfold gAt
        rw [List.getElem?_eq_getElem hi, ez]
        by_cases q : 0 ≤ z
        · have : ¬ z < (L.length : Int) := fun r => g1 ⟨q, r⟩
          simp [q, this]
        · simp [q]
      rw [gg, if_neg (by decide)]
      have : (decide (0 ≤ z) && decide (z < (L.length : Int))) = false := by
        by_cases q : 0 ≤ z
        · have : ¬ z < (L.length : Int) := fun r => g1 ⟨q, r⟩
          simp [this]
        · simp [q]
      rw [this] at cc
      exact sSeq_rt ((sIf_t cc).trans rfl)
  · have gg : gAt L.length xs i = false := by
      unfold gAt
      rw [List.getElem?_eq_getElem hi]
      generalize xs[i] = x at hI
      cases x <;> first | rfl | exact absurd rfl hI
    rw [gg, if_neg (by decide)]
    have cc : (tOr (tNot (aTr (aFn fnIsi (aCons (aOp fIx (aVar 1) (aVar 2)) (aCons (aC (.raw (.ty "int"))) (aNil)))))) (tOr (aTr (aFn fnIsi (aCons (aOp fIx (aVar 1) (aVar 2)) (aCons (aC (.raw (.ty "bool"))) (aNil))))) (tNot (aB (aChain fLe fLt (aC (.int 0)) (aOp fIx (aVar 1) (aVar 2)) (aFn fnLen (aCons (aOp fIx (aVar 0) (aC (.int 1))) (aNil)))))))) σ h = .ok true h := by
      generalize xs[i] = x at hI c1 c2 fx
      cases x with
      | int z => exact absurd rfl hI
      | bl k => exact (tOr_f c1).trans (tOr_t c2)
      | non => exact tOr_t c1
      | str k => exact tOr_t c1
      | tup k => exact tOr_t c1
      | lst k => exact tOr_t c1
      | ro k => cases fx
      | loc k => cases fx
      | raw k => cases fx
    exact sSeq_rt ((sIf_t cc).trans rfl)
variable (lt : LtN ns.length L) (pos : 0 < ns.length) (n10 : ns.length ≤ 10) (l20 : L.length ≤ 20)
include lt pos n10 l20
theorem is_state {y : PV} (gy : GY y) (h : AH) : ∃ b, m__law_is_state [netV ns L, y] h = .ok (.bl b) h ∧ (b = true ↔ ∃ ks : List Nat, y = .tup (ks.map nI) ∧ Tree ns.length L ks) := by
  unfold m__law_is_state b__law_is_state
  rcases gy with ⟨xs, rfl, hf, hz⟩ | hn
  · let S : Option PV → ASt := fun o => [some (netV ns L), some (.tup xs), o]
    have s1 : (sIf (tNot (aTr (aFn fnIsi (aCons (aVar 1) (aCons (aC (.raw (.ty "tuple"))) (aNil)))))) (sRet (aC (.bl false))) (sNext)) (S none) h = .fin .nx (S none) h := (sIf_f (tNot_ok (b := true) (aTr_ok (aFn_ok rfl (isi_tt _ _))))).trans rfl
    have ea : (aItR1 (aCons (aFn fnLen (aCons (aVar 1) (aNil))) (aNil))) (S none) h = .ok (itRg 0 xs.length) h := aItR1_ok (j := xs.length) (aCons_ok (l := aNil) (aFn_ok rfl (lenT rfl _)) rfl) (by omega) (by omega)
    obtain ⟨i, σ', G', ⟨⟨o, rfl⟩, rfl⟩, eF⟩ := for_some (a := itRg 0 xs.length) (g := gN 2) (b := bdSt) nI (List.range xs.length) (fun i => if gAt L.length xs i = true then none else some (.bl false)) h (fun _ σ G => (∃ o, σ = S o) ∧ G = []) (by simp [itRg]) (fun i G => itRg_nxt _ _ _)
      (fun i x ex hp σ G ⟨⟨o, e1⟩, e2⟩ => by
        subst e1; subst e2
        have hi : i < xs.length := by have := (List.getElem?_eq_some_iff.mp ex).1; simpa using this
        rw [List.getElem?_range hi] at ex
        cases ex
        have st := st_at (ns := ns) (L := L) hf hi (fun h0 => by
          have q := hp (i - 1) (by rw [List.take_range]; exact List.mem_range.mpr (by omega))
          have q' : gAt L.length xs (i - 1) = true := by
            by_cases c : gAt L.length xs (i - 1) = true
            · exact c
            · rw [if_neg c] at q; cases q
          unfold gAt at q'
          rw [List.getElem?_eq_getElem (by omega)] at q' ⊢
          generalize xs[i - 1] = x at q'
          cases x <;> first | exact ⟨_, rfl⟩ | cases q') (h ++ [])
        refine ⟨S (some (nI i)), S (some (nI i)), [], rfl, ⟨⟨_, rfl⟩, rfl⟩, st.trans ?_⟩
        by_cases c : gAt L.length xs i = true
        · rw [if_pos c, if_pos c]
        · rw [if_neg c, if_neg c]) (S none) [] ⟨⟨none, rfl⟩, rfl⟩
    rw [List.append_nil, show (itRg 0 xs.length).n = xs.length from rfl] at eF
    by_cases c : ∀ i, i < xs.length → gAt L.length xs i = true
    · have en : (List.range xs.length).findSome? (fun i => if gAt L.length xs i = true then none else some (PV.bl false)) = none := List.findSome?_eq_none_iff.mpr fun i hi => if_pos (c i (List.mem_range.mp hi))
      rw [en] at eF
      obtain ⟨ks, rfl, hp, hk⟩ := gAt_all.mp c
      obtain ⟨b, eb, hb⟩ := law_is_tree lt n10 pos hk (by simp at hz; omega) h
      refine ⟨b, (mDef_rt (σ := S o) (h1 := h) (v := .bl b) (sSeq_ok s1 (sSeq_ok (sFor_ok ea eF) (sRet_ok (aCall_ok rfl rfl eb))))).trans (finC_same rfl), ?_⟩
      rw [hb]
      have nd : ks.Nodup := List.nodup_iff_pairwise_ne.mpr (hp.imp fun h => by omega)
      have eT := fun k hk' => edg_lt lt (hk k hk')
      constructor
      · rintro ⟨a1, a2⟩
        exact ⟨ks, rfl, hk, hp.imp fun h => by omega, nd, conn_fst pos eT nd a2 a1, fun x y hx hy => (a2 x hx).sm.tr (a2 y hy)⟩
      · rintro ⟨js, e, T⟩
        have : ks = js := nI_inj (by injection e)
        subst this
        exact ⟨(fst_len pos eT T.fst T.nd).2.mpr fun p hp => T.cn 0 p pos hp, fun p hp => T.cn 0 p pos hp⟩
    · have en : (List.range xs.length).findSome? (fun i => if gAt L.length xs i = true then none else some (PV.bl false)) = some (.bl false) := by
        cases q : (List.range xs.length).findSome? (fun i => if gAt L.length xs i = true then none else some (PV.bl false)) with
        | none =>
          refine absurd (fun i hi => ?_) c
          have := List.findSome?_eq_none_iff.mp q i (List.mem_range.mpr hi)
          by_cases d : gAt L.length xs i = true
          · exact d
          · rw [if_neg d] at this; cases this
        | some v =>
          obtain ⟨i, _, e⟩ := List.exists_of_findSome?_eq_some q
          by_cases d : gAt L.length xs i = true
          · rw [if_pos d] at e; cases e
          · rw [if_neg d] at e; exact e.symm
      rw [en] at eF
      refine ⟨false, (mDef_rt (σ := S o) (h1 := h) (v := .bl false) (sSeq_ok s1 (sSeq_rt (sFor_ok ea eF)))).trans (finC_same rfl), fun h => absurd h (by decide), fun ⟨ks, e, T⟩ => ?_⟩
      have e' : xs = ks.map nI := by injection e
      refine absurd (gAt_all.mpr ⟨ks, e', ?_, T.lt⟩) c
      have := List.pairwise_and_iff.mpr ⟨T.srt, List.nodup_iff_pairwise_ne.mp T.nd⟩
      exact this.imp fun h => by omega
  · refine ⟨false, (mDef_rt (σ := [some (netV ns L), some y, none]) (h1 := h) (v := .bl false) (sSeq_rt ((sIf_t (tNot_ok (b := false) (aTr_ok (aFn_ok rfl (hn h))))).trans rfl))).trans (finC_same rfl), fun h => absurd h (by decide), fun ⟨ks, e, _⟩ => ?_⟩
    subst e
    exact absurd hn not_tup
end
end G12

namespace G12
open PySem PySem.Spec
open PyProof.Rows hiding St
open L2 AB MG
variable [Errs]
/-! things that is_best is asked of -/
def GT (t : PV) : Prop := (∃ xs, t = .tup xs ∧ xs.length ≤ 60 ∧ ∀ x y, xs = [x, y] → fl x = true ∧ GY y) ∨ (∀ h, fnIsi [t, .raw (.ty "tuple")] h = .ok (.bl false) h)
theorem tuple_of {xs : List PV} (h : AH) : m_tuple_of [.tup xs, .int 2] h = .ok (.bl (decide ((xs.length : Int) = 2))) h := by
  unfold m_tuple_of b_tuple_of
  have e1 : (aFn fnIsi (aCons (aVar 0) (aCons (aC (.raw (.ty "tuple"))) (aNil)))) [some (.tup xs), some (.int 2)] h = .ok (.bl true) h := aFn_ok rfl (isi_tt _ _)
  exact (mDef_rt (σ := [some (.tup xs), some (.int 2)]) (sRet_ok ((aAnd_t e1).trans (aOp_ok (aFn_ok rfl (lenT rfl _)) rfl (fEq_i _ _ _))))).trans (finC_same rfl)
theorem tuple_not {t : PV} (hn : ∀ h, fnIsi [t, .raw (.ty "tuple")] h = .ok (.bl false) h) (h : AH) : m_tuple_of [t, .int 2] h = .ok (.bl false) h := by
  unfold m_tuple_of b_tuple_of
  have e1 : (aFn fnIsi (aCons (aVar 0) (aCons (aC (.raw (.ty "tuple"))) (aNil)))) [some t, some (.int 2)] h = .ok (.bl false) h := aFn_ok rfl (hn h)
  exact (mDef_rt (σ := [some t, some (.int 2)]) (sRet_ok (aAnd_f e1))).trans (finC_same rfl)
theorem eqI_iff {m : Int} {x : PV} : eqI m x = true ↔ x = .int m := by
  cases x <;> simp [eqI]
def Due (n : Nat) (L : List (Str × Nat × Nat)) (ws : List Int) (W : Int) (t : PV) : Prop := ∃ ks : List Nat, t = .tup [.int W, .tup (ks.map nI)] ∧ Tree n L ks ∧ wS ws ks = W
theorem tup2 {x y a b : PV} (e : PV.tup [x, y] = .tup [a, b]) : x = a ∧ y = b := by
  have := PV.tup.inj e
  rw [List.cons.injEq, List.cons.injEq] at this
  exact ⟨this.1, this.2.1⟩
theorem Due.two {n : Nat} {L : List (Str × Nat × Nat)} {ws : List Int} {W : Int} {x y : PV} : Due n L ws W (.tup [x, y]) ↔ x = .int W ∧ ∃ ks : List Nat, y = .tup (ks.map nI) ∧ Tree n L ks ∧ wS ws ks = W := by
  constructor
  · rintro ⟨ks, e, T, w⟩
    obtain ⟨e1, e2⟩ := tup2 e
    exact ⟨e1, ks, e2, T, w⟩
  · rintro ⟨e1, ks, e2, T, w⟩
    exact ⟨ks, by rw [e1, e2], T, w⟩
theorem Due.len {n : Nat} {L : List (Str × Nat × Nat)} {ws : List Int} {W : Int} {xs : List PV} (d : Due n L ws W (.tup xs)) : xs.length = 2 := by
  obtain ⟨ks, e, _⟩ := d
  rw [PV.tup.inj e]; rfl
theorem Due.not {n : Nat} {L : List (Str × Nat × Nat)} {ws : List Int} {W : Int} {t : PV} (hn : ∀ h, fnIsi [t, .raw (.ty "tuple")] h = .ok (.bl false) h) : ¬ Due n L ws W t := by
  rintro ⟨ks, e, _⟩
  subst e
  exact not_tup hn
section
variable {ns : List Str} {L : List (Str × Nat × Nat)} (lt : LtN ns.length L) (pos : 0 < ns.length) (n10 : ns.length ≤ 10) (l20 : L.length ≤ 20) {ws : List Int} (lw : ws.length = L.length)
include lt pos n10 l20 lw
theorem Tree.worth {ks : List Nat} (T : Tree ns.length L ks) (h : AH) : m_worth_of [wsV ws, .tup (ks.map nI)] h = .ok (.int (wS ws ks)) h ∧ m__law_worth [wsV ws, .tup (ks.map nI)] h = .ok (.int (wS ws ks)) h := by
  have hk : ∀ k ∈ ks, k < ws.length := by rw [lw]; exact T.lt
  have hz : ks.length < 1000000 := by have := T.len; omega
  exact ⟨worth_of hk hz h, law_worth hk hz h⟩
theorem holds {t : PV} (W : Int) (g : GT t) (h : AH) : ∃ b, m__law_holds [netV ns L, wsV ws, .int W, t] h = .ok (.bl b) h ∧ (b = true ↔ Due ns.length L ws W t) := by
  unfold m__law_holds b__law_holds
  let σ : ASt := [some (netV ns L), some (wsV ws), some (.int W), some t]
  have fin : ∀ b : Bool, (b = true ↔ Due ns.length L ws W t) → (sSeq (sIf (tOr (tNot (aTr (aFn fnIsi (aCons (aVar 3) (aCons (aC (.raw (.ty "tuple"))) (aNil)))))) (tOr (aB (aOp fNe (aFn fnLen (aCons (aVar 3) (aNil))) (aC (.int 2)))) (tNot (aTr (aCall 2 m__law_same (aCons (aOp fIx (aVar 3) (aC (.int 0))) (aCons (aVar 2) (aNil)))))))) (sRet (aC (.bl false))) (sNext)) (sRet (aAnd (aCall 2 m__law_is_state (aCons (aVar 0) (aCons (aOp fIx (aVar 3) (aC (.int 1))) (aNil)))) (aOp fEq (aCall 2 m__law_worth (aCons (aVar 1) (aCons (aOp fIx (aVar 3) (aC (.int 1))) (aNil)))) (aVar 2))))) σ h = .fin (.rt (.bl b)) σ h → ∃ b, (mDef false 4 (sSeq (sIf (tOr (tNot (aTr (aFn fnIsi (aCons (aVar 3) (aCons (aC (.raw (.ty "tuple"))) (aNil)))))) (tOr (aB (aOp fNe (aFn fnLen (aCons (aVar 3) (aNil))) (aC (.int 2)))) (tNot (aTr (aCall 2 m__law_same (aCons (aOp fIx (aVar 3) (aC (.int 0))) (aCons (aVar 2) (aNil)))))))) (sRet (aC (.bl false))) (sNext)) (sRet (aAnd (aCall 2 m__law_is_state (aCons (aVar 0) (aCons (aOp fIx (aVar 3) (aC (.int 1))) (aNil)))) (aOp fEq (aCall 2 m__law_worth (aCons (aVar 1) (aCons (aOp fIx (aVar 3) (aC (.int 1))) (aNil)))) (aVar 2)))))) [netV ns L, wsV ws, .int W, t] h = .ok (.bl b) h ∧ (b = true ↔ Due ns.length L ws W t) := fun b hb e => ⟨b, (mDef_rt e).trans (finC_same rfl), hb⟩
  have out : (sRet (aC (.bl false))) σ h = .fin (.rt (.bl false)) σ h := rfl
  rcases g with ⟨xs, rfl, hz, g2⟩ | hn
  · have c1 : (tNot (aTr (aFn fnIsi (aCons (aVar 3) (aCons (aC (.raw (.ty "tuple"))) (aNil)))))) σ h = .ok false h := tNot_ok (b := true) (aTr_ok (aFn_ok rfl (isi_tt _ _)))
    have c2 : (aB (aOp fNe (aFn fnLen (aCons (aVar 3) (aNil))) (aC (.int 2)))) σ h = .ok (!decide ((xs.length : Int) = 2)) h := aB_ok (aOp_ok (aFn_ok rfl (lenT rfl _)) rfl (fNe_i _ _ _))
    by_cases l2 : xs.length = 2
    · rw [decide_eq_true (by omega)] at c2
      obtain ⟨x, y, rfl⟩ := two_len l2
      obtain ⟨hx, gy⟩ := g2 x y rfl
      have e0 : (aOp fIx (aVar 3) (aC (.int 0))) σ h = .ok x h := aOp_ok rfl rfl (fIx_tup rfl)
      have e1 : (aOp fIx (aVar 3) (aC (.int 1))) σ h = .ok y h := aOp_ok rfl rfl (fIx_tup rfl)
      have c3 : (tNot (aTr (aCall 2 m__law_same (aCons (aOp fIx (aVar 3) (aC (.int 0))) (aCons (aVar 2) (aNil)))))) σ h = .ok (!eqI W x) h := tNot_ok (aTr_ok (aCall_ok (aCons_ok e0 rfl) rfl (same_int hx W h)))
      cases q : eqI W x with
      | false =>
        rw [q] at c3
        refine fin false ⟨fun h => absurd h (by decide), fun d => ?_⟩ (sSeq_rt ((sIf_t ((tOr_f c1).trans ((tOr_f c2).trans c3))).trans out))
        have := (eqI_iff (m := W)).mpr (Due.two.mp d).1
        rw [q] at this; cases this
      | true =>
        rw [q] at c3
        have s1 : (sIf (tOr (tNot (aTr (aFn fnIsi (aCons (aVar 3) (aCons (aC (.raw (.ty "tuple"))) (aNil)))))) (tOr (aB (aOp fNe (aFn fnLen (aCons (aVar 3) (aNil))) (aC (.int 2)))) (tNot (aTr (aCall 2 m__law_same (aCons (aOp fIx (aVar 3) (aC (.int 0))) (aCons (aVar 2) (aNil)))))))) (sRet (aC (.bl false))) (sNext)) σ h = .fin .nx σ h := (sIf_f ((tOr_f c1).trans ((tOr_f c2).trans c3))).trans rfl
        obtain ⟨b, eb, hb⟩ := is_state lt pos n10 l20 gy h
        have es : (aCall 2 m__law_is_state (aCons (aVar 0) (aCons (aOp fIx (aVar 3) (aC (.int 1))) (aNil)))) σ h = .ok (.bl b) h := aCall_ok (aCons_ok rfl (aCons_ok e1 rfl)) rfl eb
        have ex := (eqI_iff (m := W)).mp q
        cases b with
        | false =>
          refine fin false ⟨fun h => absurd h (by decide), fun d => ?_⟩ (sSeq_ok s1 (sRet_ok (aAnd_f es)))
          obtain ⟨_, ks, e, T, _⟩ := Due.two.mp d
          have := hb.mpr ⟨ks, e, T⟩
          cases this
        | true =>
          obtain ⟨ks, rfl, T⟩ := hb.mp rfl
          have ew : (aCall 2 m__law_worth (aCons (aVar 1) (aCons (aOp fIx (aVar 3) (aC (.int 1))) (aNil)))) σ h = .ok (.int (wS ws ks)) h := aCall_ok (aCons_ok rfl (aCons_ok e1 rfl)) rfl (Tree.worth lt pos n10 l20 lw T h).2
          refine fin (decide (wS ws ks = W)) ?_ (sSeq_ok s1 (sRet_ok ((aAnd_t es).trans (aOp_ok ew rfl (fEq_i _ _ _)))))
          rw [decide_eq_true_iff, Due.two]
          constructor
          · intro w
            exact ⟨ex, ks, rfl, T, w⟩
          · rintro ⟨_, js, e, _, w⟩
            have : ks = js := nI_inj (PV.tup.inj e)
            rw [this]; exact w
    · rw [decide_eq_false (by omega)] at c2
      refine fin false ⟨fun h => absurd h (by decide), fun d => absurd d.len l2⟩ (sSeq_rt ((sIf_t ((tOr_f c1).trans (tOr_t c2))).trans out))
  · have c1 : (tNot (aTr (aFn fnIsi (aCons (aVar 3) (aCons (aC (.raw (.ty "tuple"))) (aNil)))))) σ h = .ok true h := tNot_ok (b := false) (aTr_ok (aFn_ok rfl (hn h)))
    refine fin false ⟨fun h => absurd h (by decide), fun d => absurd d (Due.not hn)⟩ (sSeq_rt ((sIf_t (tOr_t c1)).trans out))
end
end G12

namespace G12
open PySem PySem.Spec
open PyProof.Rows hiding St
open L2 AB MG
variable [Errs]
theorem Jn_of' {e : Nat → Nat × Nat} {T : List Nat} {E : List (Nat × Nat)} (h : ∀ x ∈ E, Jn e T x.1 x.2) {a b : Nat} (c : Cn E a b) : Jn e T a b := by
  induction c with
  | rf => exact .rf _
  | fw _ m ih => exact ih.tr (h _ m)
  | bw _ m ih => exact ih.tr (h _ m).sm
theorem net_jn {ns : List Str} {L : List (Str × Nat × Nat)} (N : Net ns L) : ∀ p, p < ns.length → Jn (edg L) (List.range L.length) 0 p := fun p hp => Jn_of' (fun x hx => by
  obtain ⟨l, hl, rfl⟩ := List.mem_map.mp hx
  obtain ⟨k, hk, e⟩ := List.getElem_of_mem hl
  have : edg L k = l.2 := by unfold edg; rw [List.getD_eq_getElem?_getD, List.getElem?_eq_getElem hk, ← e]; rfl
  rw [← this]
  exact Jn.line (List.mem_range.mpr hk)) (N.cn p hp)
/-! the tree worth most -/
noncomputable def bestK (L : List (Str × Nat × Nat)) (ws : List Int) : List Nat := srtN (gr (edg L) [] (ordW ws L.length))
noncomputable def bestW (L : List (Str × Nat × Nat)) (ws : List Int) : Int := wS ws (bestK L ws)
section
variable {ns : List Str} {L : List (Str × Nat × Nat)} (N : Net ns L) {ws : List Int} (lw : ws.length = L.length)
include N
theorem bestK_tree : Tree ns.length L (bestK L ws) := by
  have pm := srtN_perm (gr (edg L) [] (ordW ws L.length))
  obtain ⟨f, nd⟩ := gr_fst (e := edg L) (ordW ws L.length) [] ⟨Fst.nil, List.nodup_nil⟩
  have all : ∀ a b, Jn (edg L) (List.range L.length) a b → Jn (edg L) (bestK L ws) a b := fun a b j => Jn_of' (fun x hx => by
    obtain ⟨k, hk, rfl⟩ := List.mem_map.mp hx
    exact (gr_span _ [] ((ordW_perm ws L.length).mem_iff.mpr hk)).perm pm.symm) j
  refine ⟨fun k hk => ?_, srtN_le _, pm.nodup_iff.mpr nd, f.perm pm, fun a b ha hb => (all _ _ (net_jn N a ha)).sm.tr (all _ _ (net_jn N b hb))⟩
  rcases gr_sub _ [] (pm.mem_iff.mp hk) with q | q
  · cases q
  · exact List.mem_range.mp ((ordW_perm ws L.length).mem_iff.mp q)
theorem best_most {T : List Nat} (t : Tree ns.length L T) : wS ws T ≤ bestW L ws := by
  have q := gr_best (e := edg L) (wt ws) (ordW_desc ws L.length) ((ordW_perm ws L.length).nodup_iff.mpr List.nodup_range) _ T (Nat.le_refl _) t.fst t.nd (fun k hk => (ordW_perm ws L.length).mem_iff.mpr (List.mem_range.mpr (t.lt k hk))) (fun k hk => by
    have := edg_lt N.lt (List.mem_range.mp ((ordW_perm ws L.length).mem_iff.mp hk))
    exact t.cn _ _ this.1 this.2)
  refine Int.le_trans q (Int.le_of_eq ?_)
  exact sum_perm ((srtN_perm _).symm.map _)
include lw
theorem best_tree (h : AH) : m_best_tree [netV ns L, wsV ws] h = .ok (.tup [.int (bestW L ws), .tup ((bestK L ws).map nI)]) h := by
  unfold m_best_tree b_best_tree
  have T := bestK_tree N (ws := ws)
  let S : Option PV → ASt := fun o => [some (netV ns L), some (wsV ws), o]
  have e1 := (need N.lt N.pos N.n10 N.l20 h).1 (net_jn N)
  have e2 : m_best_by [netV ns L, wsV ws] h = .ok (.tup ((bestK L ws).map nI)) h := best_by N.lt N.n10 N.l20 lw h
  have e3 := (Tree.worth N.lt N.pos N.n10 N.l20 lw T h).1
  have e4 : (aTup (aCons (aCall 2 m_worth_of (aCons (aVar 1) (aCons (aVar 2) (aNil)))) (aCons (aVar 2) (aNil)))) (S (some (.tup ((bestK L ws).map nI)))) h = .ok (.tup [.int (bestW L ws), .tup ((bestK L ws).map nI)]) h :=
    aTup_ok (aCons_ok (aCall_ok rfl rfl e3) (aCons_ok rfl rfl)) (by simp)
  refine (mDef_rt (σ := S (some (.tup ((bestK L ws).map nI)))) (h1 := h) (v := .tup [.int (bestW L ws), .tup ((bestK L ws).map nI)]) ?_).trans (finC_same ?_)
  · refine sSeq_ok (σ1 := S none) (h1 := h) (sExpr_ok (aCall_ok rfl rfl e1)) ?_
    exact sSeq_ok (sSet_ok (aCall_ok rfl rfl e2)) (sRet_ok e4)
  · have := low_tupn h.length (bestK L ws)
    simp [PV.low, PV.lows] at this ⊢
    exact this
theorem is_best {t : PV} (g : GT t) (h : AH) : ∃ b, m_is_best [netV ns L, wsV ws, t] h = .ok (.bl b) h ∧ (b = true ↔ Due ns.length L ws (bestW L ws) t) := by
  have ebt := best_tree N lw h
  generalize bestW L ws = W at ebt ⊢
  unfold m_is_best b_is_best
  let σ0 : ASt := [some (netV ns L), some (wsV ws), some t, none]
  let σ : ASt := [some (netV ns L), some (wsV ws), some t, some (.int W)]
  have s0 : (sSet 3 (aOp fIx (aCall 2 m_best_tree (aCons (aVar 0) (aCons (aVar 1) (aNil)))) (aC (.int 0)))) σ0 h = .fin .nx σ h := sSet_ok (aOp_ok (aCall_ok rfl rfl ebt) rfl (fIx_tup rfl))
  have fin : ∀ (b : Bool) (r : AS), (b = true ↔ Due ns.length L ws W t) → r σ h = .fin (.rt (.bl b)) σ h → ∃ b, (mDef false 4 (sSeq (sSet 3 (aOp fIx (aCall 2 m_best_tree (aCons (aVar 0) (aCons (aVar 1) (aNil)))) (aC (.int 0)))) r)) [netV ns L, wsV ws, t] h = .ok (.bl b) h ∧ (b = true ↔ Due ns.length L ws W t) := fun b r hb e => by
    have e' : (sSeq (sSet 3 (aOp fIx (aCall 2 m_best_tree (aCons (aVar 0) (aCons (aVar 1) (aNil)))) (aC (.int 0)))) r) σ0 h = .fin (.rt (.bl b)) σ h := sSeq_ok s0 e
    exact ⟨b, (mDef_rt (n := 4) (xs := [netV ns L, wsV ws, t]) (σ := σ) (h1 := h) (v := .bl b) e').trans (finC_same rfl), hb⟩
  have out : (sRet (aC (.bl false))) σ h = .fin (.rt (.bl false)) σ h := rfl
  rcases g with ⟨xs, rfl, hz, g2⟩ | hn
  · have c1 : (tNot (aTr (aCall 2 m_tuple_of (aCons (aVar 2) (aCons (aC (.int 2)) (aNil)))))) σ h = .ok (!decide ((xs.length : Int) = 2)) h := tNot_ok (aTr_ok (aCall_ok rfl rfl (tuple_of h)))
    by_cases l2 : xs.length = 2
    · rw [decide_eq_true (by omega)] at c1
      obtain ⟨x, y, rfl⟩ := two_len l2
      obtain ⟨hx, gy⟩ := g2 x y rfl
      have e0 : (aOp fIx (aVar 2) (aC (.int 0))) σ h = .ok x h := aOp_ok rfl rfl (fIx_tup rfl)
      have e1 : (aOp fIx (aVar 2) (aC (.int 1))) σ h = .ok y h := aOp_ok rfl rfl (fIx_tup rfl)
      have c2 : (tNot (aTr (aCall 1 m_is_integer (aCons (aOp fIx (aVar 2) (aC (.int 0))) (aNil))))) σ h = .ok (!isI x) h := tNot_ok (aTr_ok (aCall_ok (aCons_ok e0 rfl) rfl (is_int hx h)))
      cases q : isI x with
      | false =>
        rw [q] at c2
        refine fin false _ ⟨fun h => absurd h (by decide), fun d => ?_⟩ (sSeq_rt ((sIf_t ((tOr_f c1).trans (tOr_t c2))).trans out))
        rw [(Due.two.mp d).1] at q; cases q
      | true =>
        rw [q] at c2
        obtain ⟨b, eb, hb⟩ := is_tree N.lt N.pos N.n10 N.l20 gy h
        have c3 : (tNot (aTr (aCall 2 m_is_tree (aCons (aVar 0) (aCons (aOp fIx (aVar 2) (aC (.int 1))) (aNil)))))) σ h = .ok (!b) h := tNot_ok (aTr_ok (aCall_ok (aCons_ok rfl (aCons_ok e1 rfl)) rfl eb))
        cases b with
        | false =>
          refine fin false _ ⟨fun h => absurd h (by decide), fun d => ?_⟩ (sSeq_rt ((sIf_t ((tOr_f c1).trans ((tOr_f c2).trans c3))).trans out))
          obtain ⟨_, ks, e, T, _⟩ := Due.two.mp d
          have := hb.mpr ⟨ks, e, T⟩
          cases this
        | true =>
          obtain ⟨ks, rfl, T⟩ := hb.mp rfl
          obtain ⟨i, rfl⟩ : ∃ i, x = .int i := by cases x <;> first | exact ⟨_, rfl⟩ | cases q
          have s1 : (sIf (tOr (tNot (aTr (aCall 2 m_tuple_of (aCons (aVar 2) (aCons (aC (.int 2)) (aNil)))))) (tOr (tNot (aTr (aCall 1 m_is_integer (aCons (aOp fIx (aVar 2) (aC (.int 0))) (aNil))))) (tNot (aTr (aCall 2 m_is_tree (aCons (aVar 0) (aCons (aOp fIx (aVar 2) (aC (.int 1))) (aNil)))))))) (sRet (aC (.bl false))) (sNext)) σ h = .fin .nx σ h := (sIf_f ((tOr_f c1).trans ((tOr_f c2).trans c3))).trans rfl
          have ew : (aCall 2 m_worth_of (aCons (aVar 1) (aCons (aOp fIx (aVar 2) (aC (.int 1))) (aNil)))) σ h = .ok (.int (wS ws ks)) h := aCall_ok (aCons_ok rfl (aCons_ok e1 rfl)) rfl (Tree.worth N.lt N.pos N.n10 N.l20 lw T h).1
          have ee : (aOp fEq (aOp fIx (aVar 2) (aC (.int 0))) (aVar 3)) σ h = .ok (.bl (decide (i = W))) h := aOp_ok e0 rfl (fEq_i _ _ _)
          have e2 : (aOp fEq (aCall 2 m_worth_of (aCons (aVar 1) (aCons (aOp fIx (aVar 2) (aC (.int 1))) (aNil)))) (aVar 3)) σ h = .ok (.bl (decide (wS ws ks = W))) h := aOp_ok ew rfl (fEq_i _ _ _)
          by_cases c : i = W
          · rw [decide_eq_true c] at ee
            refine fin (decide (wS ws ks = W)) _ ?_ (sSeq_ok s1 (sRet_ok ((aAnd_t ee).trans e2)))
            rw [decide_eq_true_iff, Due.two]
            constructor
            · intro w
              exact ⟨by rw [c], ks, rfl, T, w⟩
            · rintro ⟨_, js, e, _, w⟩
              have : ks = js := nI_inj (PV.tup.inj e)
              rw [this]; exact w
          · rw [decide_eq_false c] at ee
            refine fin false _ ⟨fun h => absurd h (by decide), fun d => ?_⟩ (sSeq_ok s1 (sRet_ok (aAnd_f ee)))
            exact absurd (PV.int.inj (Due.two.mp d).1) c
    · rw [decide_eq_false (by omega)] at c1
      refine fin false _ ⟨fun h => absurd h (by decide), fun d => absurd d.len l2⟩ (sSeq_rt ((sIf_t (tOr_t c1)).trans out))
  · have c1 : (tNot (aTr (aCall 2 m_tuple_of (aCons (aVar 2) (aCons (aC (.int 2)) (aNil)))))) σ h = .ok true h := tNot_ok (b := false) (aTr_ok (aCall_ok rfl rfl (tuple_not hn h)))
    refine fin false _ ⟨fun h => absurd h (by decide), fun d => absurd d (Due.not hn)⟩ (sSeq_rt ((sIf_t (tOr_t c1)).trans out))
end
end G12

namespace G12
open PySem PySem.Spec
open PyProof.Rows hiding St
open L2 AB MG
variable [Errs]
/-! the first lines that have no ring -/
noncomputable abbrev bdF : AS := (sSeq (sAsg (aTup (aCons (aOp fIx (aVar 3) (aOp fIx (aOp fIx (aOp fIx (aVar 0) (aC (.int 1))) (aVar 4)) (aC (.int 1)))) (aCons (aOp fIx (aVar 3) (aOp fIx (aOp fIx (aOp fIx (aVar 0) (aC (.int 1))) (aVar 4)) (aC (.int 2)))) (aNil)))) (gTup' 2 (gCons' (gN 5) (gCons' (gN 6) (gNil'))))) (sIf (aB (aOp fNe (aVar 5) (aVar 6))) (sSeq (sSet 3 (aCut (aLc (aItS (aVar 3)) [7] (gN 7) (tYes') (aIf (aB (aOp fIn (aVar 7) (aTup (aCons (aVar 5) (aCons (aVar 6) (aNil)))))) (aFn fnMin (aCons (aVar 5) (aCons (aVar 6) (aNil)))) (aVar 7))))) (sExpr (aM isL mAppend (aVar 2) (aCons (aVar 4) (aNil))))) (sNext)))
section
variable {ns : List Str} {L : List (Str × Nat × Nat)} (lt : LtN ns.length L) (n10 : ns.length ≤ 10) (l20 : L.length ≤ 20)
include lt n10 l20
theorem law_forest {v : PV} {js : List Nat} {h : AH} (it : ∀ (σ : ASt) (g : AH), aVar 1 σ (h ++ g) = .ok v (h ++ g) → ∃ A, aItS (aVar 1) σ (h ++ g) = .ok A (h ++ g) ∧ A.n = js.length ∧ ∀ i g', A.nxt i (h ++ g') = some (js.map nI)[i]?) (hj : ∀ k ∈ js, k < L.length) :
    m__law_forest [netV ns L, v] h = .ok (.tup ((srtN (gr (edg L) [] js)).map nI)) h := by
  unfold m__law_forest b__law_forest
  let T : Nat → List Nat := fun i => gr (edg L) [] (js.take i)
  let S : List Nat → Option PV → Option PV → Option PV → ASt := fun hs o4 o5 o6 => [some (netV ns L), some v, some (.loc h.length), some (.lst (hs.map nI)), o4, o5, o6, none]
  obtain ⟨A, eA, nA, xA⟩ := it (S (List.range ns.length) none none none) [AO.lst []] rfl
  have lT : ∀ i, (T i).length ≤ L.length := fun i => by
    have q := (gr_fst (e := edg L) (js.take i) [] ⟨Fst.nil, List.nodup_nil⟩).2
    exact len_lt q fun j hj' => hj j (by
      rcases gr_sub (e := edg L) (js.take i) [] hj' with q | q
      · cases q
      · exact List.mem_of_mem_take q)
  obtain ⟨hs, o4, o5, o6, eF⟩ : ∃ (hs : List Nat) (o4 o5 o6 : Option PV), forA A (gN 4) bdF A.n 0 (S (List.range ns.length) none none none) (h ++ [AO.lst []]) = .fin .nx (S hs o4 o5 o6) (h ++ [AO.lst ((T js.length).map nI)]) := by
    refine forA_rule (a := A) (g := gN 4) (b := bdF) (js.map nI)
      (fun i σ g => ∃ (hs : List Nat) (o4 o5 o6 : Option PV), σ = S hs o4 o5 o6 ∧ g = h ++ [AO.lst ((T i).map nI)] ∧ GL (edg L) ns.length (js.take i) hs)
      (fun r => ∃ (hs : List Nat) (o4 o5 o6 : Option PV), r = .fin .nx (S hs o4 o5 o6) (h ++ [AO.lst ((T js.length).map nI)])) (by rw [List.length_map]; omega)
      (fun i σ g _ ⟨hs, o4, o5, o6, e1, e2, li⟩ => by rw [e2]; exact xA i _)
      (fun i x σ g ex ⟨hs, o4, o5, o6, e1, e2, gl⟩ => by
        subst e1; subst e2
        rw [List.getElem?_map] at ex
        obtain ⟨k, ek, rfl⟩ := Option.map_eq_some_iff.mp ex
        have et := gr_take (e := edg L) ek
        have kl := hj k (List.mem_of_getElem? ek)
        obtain ⟨la, lb⟩ := edg_lt lt kl
        have hl := gl.li.len
        let H : AH := h ++ [AO.lst ((T i).map nI)]
        let a := hs.getD (edg L k).1 0
        let b := hs.getD (edg L k).2 0
        let σ1 := S hs (some (nI k)) (some (nI a)) (some (nI b))
        have s1 := sAsg_ok (g := gTup' 2 (gCons' (gN 5) (gCons' (gN 6) (gNil')))) (h2 := H) (σ2 := σ1) (ends_two (ns := ns) (σ := S hs (some (nI k)) o5 o6) (h := H) (g := 0) (il := 4) (ig := 3) kl rfl rfl rfl (fun j hj => lst_ix hj H) (by omega) (by omega)) rfl
        have ec : (aB (aOp fNe (aVar 5) (aVar 6))) σ1 H = .ok (!decide ((a : Int) = b)) H := aB_ok (aOp_ok rfl rfl (fNe_i _ _ _))
        by_cases c : a = b
        · rw [decide_eq_true (by omega)] at ec
          obtain ⟨g1, q⟩ := gl.skip la lb c
          have eT : T (i + 1) = T i := by show gr (edg L) [] (js.take (i + 1)) = _; rw [et]; exact q
          exact ⟨_, _, rfl, .inl ⟨σ1, H, .inl (sSeq_ok s1 ((sIf_f ec).trans rfl)), hs, _, _, _, rfl, by rw [eT], by rw [et]; exact g1⟩⟩
        · rw [decide_eq_false (by omega)] at ec
          obtain ⟨g1, q⟩ := gl.join la lb c
          have eT : T (i + 1) = T i ++ [k] := by show gr (edg L) [] (js.take (i + 1)) = _; rw [et]; exact q
          obtain ⟨B, eB, nB, xB⟩ := aItS_lst (aVar 3) σ1 H H (hs.map nI) rfl
          have elc := grp_lc (m := aVar 3) (σ := σ1) (h := H) (hs := hs) (a := a) (b := b) (i := 5) (j := 6) (c := 7) eB nB xB (by omega) (fun s G => ⟨[some (netV ns L), some v, some (.loc h.length), some (.lst (hs.map nI)), some (nI k), some (nI a), some (nI b), some (nI s)], rfl, fun _ => rfl, fun _ => rfl, fun _ => rfl⟩)
          let σ2 := S (hs.map (gm a b)) (some (nI k)) (some (nI a)) (some (nI b))
          have s2 : (sSet 3 (aCut (aLc (aItS (aVar 3)) [7] (gN 7) (tYes') (aIf (aB (aOp fIn (aVar 7) (aTup (aCons (aVar 5) (aCons (aVar 6) (aNil)))))) (aFn fnMin (aCons (aVar 5) (aCons (aVar 6) (aNil)))) (aVar 7))))) σ1 H = .fin .nx σ2 H := sSet_ok ((aCut_ok elc).trans (finC_ext (frz_new (Nat.le_refl _) (getLast_app _ _) (low_nI _ _))))
          have lti := lT i
          have ea : mAppend (.loc h.length) [nI k] H = .ok .non (h ++ [AO.lst ((T (i + 1)).map nI)]) := by
            show mAppend (.loc h.length) [nI k] (h ++ [AO.lst ((T i).map nI)]) = _
            rw [app_last rfl (by rw [List.length_map]; omega), eT]; simp
          have s3 : (sExpr (aM isL mAppend (aVar 2) (aCons (aVar 4) (aNil)))) σ2 H = .fin .nx σ2 (h ++ [AO.lst ((T (i + 1)).map nI)]) := sExpr_ok (aM_ok rfl (isL_last rfl) (aCons_ok rfl rfl) ea)
          exact ⟨_, _, rfl, .inl ⟨σ2, _, .inl (sSeq_ok s1 ((sIf_t ec).trans (sSeq_ok s2 s3))), _, _, _, _, rfl, rfl, by rw [et]; exact g1⟩⟩)
      (fun σ g ⟨hs, o4, o5, o6, e1, e2, _⟩ => ⟨hs, o4, o5, o6, by rw [e1, e2, List.length_map]⟩)
      (σ := S (List.range ns.length) none none none) (h := h ++ [AO.lst []]) ⟨List.range ns.length, none, none, none, rfl, rfl, by rw [List.take_zero]; exact GL.start _ _⟩
  have eT : T js.length = gr (edg L) [] js := by show gr (edg L) [] (js.take js.length) = _; rw [List.take_length]
  rw [eT] at eF
  have lG := lT js.length
  rw [eT] at lG
  let G := gr (edg L) [] js
  have lG2 : G.length < 64 := by show (gr (edg L) [] js).length < 64; omega
  let H1 : AH := h ++ [AO.lst (G.map nI)]
  have es : fnSortLT [.loc h.length] H1 = .ok (.loc H1.length) (H1 ++ [AO.lst ((srtN G).map nI)]) := fnSortLT_n (ks := G) (seqOf_loc (getLast_app _ _)) lG2
  have eh : H1 ++ [AO.lst ((srtN G).map nI)] = h ++ [AO.lst (G.map nI), AO.lst ((srtN G).map nI)] := by show (h ++ _) ++ _ = _; rw [List.append_assoc]; rfl
  refine (mDef_rt (σ := S hs o4 o5 o6) (h1 := H1 ++ [AO.lst ((srtN G).map nI)]) (v := .tup ((srtN G).map nI)) ?_).trans (by rw [eh]; exact finC_ext (frz_below (low_nI _ _)))
  have e3 : (aCut (aLstRg1 (aFn fnLen (aCons (aOp fIx (aVar 0) (aC (.int 0))) (aNil))))) [some (netV ns L), some v, some (.loc h.length), none, none, none, none, none] (h ++ [AO.lst []]) = .ok (.lst ((List.range ns.length).map nI)) (h ++ [AO.lst []]) :=
    (aCut_ok (aLstRg1_ok (n := ns.length) (aFn_ok (aCons_ok (aOp_ok rfl rfl (net_0 _ _ _)) rfl) (lenT (by simp) _)) (by omega))).trans (finC_ext (frz_new (Nat.le_refl _) (getLast_app _ _) (low_nI _ _)))
  refine sSeq_ok (σ1 := [some (netV ns L), some v, some (.loc h.length), none, none, none, none, none]) (h1 := h ++ [AO.lst []]) (sSet_ok (aLst_ok (xs := []) rfl (by simp))) ?_
  refine sSeq_ok (σ1 := S (List.range ns.length) none none none) (h1 := h ++ [AO.lst []]) (sSet_ok e3) ?_
  refine sSeq_ok (sFor_ok eA eF) ?_
  exact sRet_ok (aFn_ok (aCons_ok (l := aNil) (aFn_ok rfl es) rfl) (fnTuple_s (seqOf_loc (getLast_app _ _))))
end
end G12

namespace G12
open PySem PySem.Spec
open PyProof.Rows hiding St
open L2 AB MG
variable [Errs]
/-! the lines, the greatest worth first -/
def Pw (ws : List Int) (a b : Nat) : Prop := wt ws b < wt ws a ∨ (wt ws a = wt ws b ∧ a ≤ b)
theorem map_erase {α β : Type} (f : α → β) : ∀ (xs : List α) (j : Nat), (xs.map f).eraseIdx j = (xs.eraseIdx j).map f
  | [], _ => by simp
  | x :: xs, 0 => rfl
  | x :: xs, j + 1 => by
    show f x :: (xs.map f).eraseIdx j = _
    rw [map_erase f xs j]; rfl
theorem erase_perm {α : Type} : ∀ {xs : List α} {j : Nat} {x : α}, xs[j]? = some x → xs.Perm (x :: xs.eraseIdx j)
  | y :: xs, 0, x, e => by
    have : y = x := by simpa using e
    rw [this]; exact .refl _
  | y :: xs, j + 1, x, e => by
    have q := erase_perm (xs := xs) (j := j) (x := x) (by simpa using e)
    exact (q.cons y).trans (.swap _ _ _)
  | [], _, _, e => by simp at e
theorem remI {n : Nat} {R : List Nat} {b : Nat} {h : AH} (e : h[n]? = some (.lst (R.map nI))) (hb : b ∈ R) : ∃ R', mRemI (.loc n) [nI b] h = .ok .non (h.set n (.lst (R'.map nI))) ∧ R.Perm (b :: R') ∧ R'.Sublist R := by
  unfold mRemI
  dsimp only
  rw [lstOf_loc e, Option.bind_some, nI_map, intsOf_map]
  dsimp only
  cases q : (R.map fun n : Nat => (n : Int)).findIdx? (fun z => decide (z = (b : Int))) with
  | none =>
    have := List.findIdx?_eq_none_iff.mp q (b : Int) (List.mem_map.mpr ⟨b, hb, rfl⟩)
    simp at this
  | some j =>
    obtain ⟨hj, q1, _⟩ := List.findIdx?_eq_some_iff_getElem.mp q
    rw [decide_eq_true_iff, List.getElem_map] at q1
    rw [List.length_map] at hj
    refine ⟨R.eraseIdx j, ?_, erase_perm (by rw [List.getElem?_eq_getElem hj]; congr 1; omega), List.eraseIdx_sublist _ _⟩
    dsimp only
    unfold put
    rw [nI_map, map_erase]
noncomputable abbrev bdB : AS := (sSet 4 (aIf (aB (aOp fGt (aOp fIx (aVar 1) (aVar 5)) (aOp fIx (aVar 1) (aVar 4)))) (aVar 5) (aVar 4)))
section
variable {ns : List Str} {L : List (Str × Nat × Nat)} (lt : LtN ns.length L) (n10 : ns.length ≤ 10) (l20 : L.length ≤ 20) {ws : List Int} (lw : ws.length = L.length)
include lw in
theorem picked {R : List Nat} (s : R.Pairwise (· < ·)) (hk : ∀ k ∈ R, k < L.length) {r0 : Nat} (e0 : R[0]? = some r0) {n m : Nat} {g : AH} (en : g[n]? = some (.lst (R.map nI))) (o5 : Option PV) :
    ∃ b o5', sFor (aItS (aVar 2)) (gN 5) bdB [some (netV ns L), some (wsV ws), some (.loc n), some (.loc m), some (nI r0), o5] g = .fin .nx [some (netV ns L), some (wsV ws), some (.loc n), some (.loc m), some (nI b), o5'] g ∧ b ∈ R ∧ ∀ x ∈ R, Pw ws b x := by
  let S : Nat → Option PV → ASt := fun b o5 => [some (netV ns L), some (wsV ws), some (.loc n), some (.loc m), some (nI b), o5]
  obtain ⟨σ', eF, b, o5', rfl, ⟨j, _, ej⟩, hp⟩ := for_at (a := itLive (.loc n) (R.map nI).length) (g := gN 5) (b := bdB) (R.map nI) g
    (fun i σ => ∃ (b : Nat) (o5 : Option PV), σ = S b o5 ∧ (∃ j, j ≤ i ∧ R[j]? = some b) ∧ ∀ x ∈ R.take i, Pw ws b x) rfl (fun _ => live_nxt _ en)
    (σ := S r0 o5) ⟨r0, o5, rfl, ⟨0, Nat.le_refl _, e0⟩, by simp⟩
    (fun i x σ ex ⟨b, o5, e1, ⟨j, hj, ej⟩, hp⟩ => by
      subst e1
      rw [List.getElem?_map] at ex
      obtain ⟨k, ek, rfl⟩ := Option.map_eq_some_iff.mp ex
      have kl : k < ws.length := by rw [lw]; exact hk k (List.mem_of_getElem? ek)
      have bl : b < ws.length := by rw [lw]; exact hk b (List.mem_of_getElem? ej)
      let σ1 := S b (some (nI k))
      have ec : (aB (aOp fGt (aOp fIx (aVar 1) (aVar 5)) (aOp fIx (aVar 1) (aVar 4)))) σ1 g = .ok (decide (wt ws b < wt ws k)) g := aB_ok (aOp_ok (aOp_ok rfl rfl (wt_ix kl _)) (aOp_ok rfl rfl (wt_ix bl _)) (fGt_i _ _ _))
      have et : R.take (i + 1) = R.take i ++ [k] := by rw [List.take_succ, ek]; rfl
      by_cases c : wt ws b < wt ws k
      · rw [decide_eq_true c] at ec
        refine ⟨σ1, S k (some (nI k)), rfl, sSet_ok ((aIf_t ec).trans rfl), k, _, rfl, ⟨i, by omega, ek⟩, fun y hy => ?_⟩
        rw [et] at hy
        rcases List.mem_append.mp hy with hy | hy
        · have := hp y hy
          unfold Pw at this ⊢
          left
          rcases this with q | q <;> omega
        · rw [List.mem_singleton] at hy; subst hy
          exact .inr ⟨rfl, Nat.le_refl _⟩
      · rw [decide_eq_false c] at ec
        refine ⟨σ1, S b (some (nI k)), rfl, sSet_ok ((aIf_f ec).trans rfl), b, _, rfl, ⟨j, by omega, ej⟩, fun y hy => ?_⟩
        rw [et] at hy
        rcases List.mem_append.mp hy with hy | hy
        · exact hp y hy
        · rw [List.mem_singleton] at hy; subst hy
          have hle : b ≤ y := by
            obtain ⟨h1, e1⟩ := List.getElem?_eq_some_iff.mp ej
            obtain ⟨h2, e2⟩ := List.getElem?_eq_some_iff.mp ek
            by_cases d : j = i
            · subst d; omega
            · have := List.pairwise_iff_getElem.mp s j i h1 h2 (by omega)
              omega
          unfold Pw
          omega)
  refine ⟨b, o5', sFor_ok (aItS_loc rfl en) eF, List.mem_of_getElem? ej, ?_⟩
  rw [List.length_map, List.take_length] at hp
  exact hp
include lt n10 l20 lw
theorem greedy (h : AH) : m__law_greedy [netV ns L, wsV ws] h = .ok (.tup ((bestK L ws).map nI)) h := by
  unfold m__law_greedy b__law_greedy
  let S : Option PV → Option PV → ASt := fun o4 o5 => [some (netV ns L), some (wsV ws), some (.loc h.length), some (.loc (h.length + 1)), o4, o5]
  let G : List Nat → List Nat → AH := fun R O => h ++ AO.lst (R.map nI) :: [AO.lst (O.map nI)]
  obtain ⟨O, o4, o5, eW, eO⟩ := while_rule (c := aB (aOp fGt (aFn fnLen (aCons (aVar 2) (aNil))) (aC (.int 0)))) (b := (sSeq (sSet 4 (aOp fIx (aVar 2) (aC (.int 0)))) (sSeq (sFor (aItS (aVar 2)) (gN 5) (sSet 4 (aIf (aB (aOp fGt (aOp fIx (aVar 1) (aVar 5)) (aOp fIx (aVar 1) (aVar 4)))) (aVar 5) (aVar 4)))) (sSeq (sExpr (aM isL mAppend (aVar 3) (aCons (aVar 4) (aNil)))) (sExpr (aM isL mRemI (aVar 2) (aCons (aVar 4) (aNil))))))))
    (fun σ g => ∃ (R O : List Nat) (o4 o5 : Option PV), σ = S o4 o5 ∧ g = G R O ∧ (O ++ R).Perm (List.range L.length) ∧ R.Pairwise (· < ·) ∧ O.Pairwise (Pw ws) ∧ ∀ a ∈ O, ∀ b ∈ R, Pw ws a b)
    (fun _ g => match g[h.length]? with | some (.lst l) => l.length | _ => 0)
    (fun r => ∃ (O : List Nat) (o4 o5 : Option PV), r = .fin .nx (S o4 o5) (G [] O) ∧ O = ordW ws L.length)
    (fun σ g ⟨R, O, o4, o5, e1, e2, pm, s, so, sr⟩ => by
      subst e1; subst e2
      have len : (O ++ R).length = L.length := by rw [pm.length_eq, List.length_range]
      rw [List.length_append] at len
      have cond : (aB (aOp fGt (aFn fnLen (aCons (aVar 2) (aNil))) (aC (.int 0)))) (S o4 o5) (G R O) = .ok (decide ((0 : Int) < (R.map nI).length)) (G R O) := aB_ok (aOp_ok (aFn_ok rfl (fnLen_seq (seqOf_loc (g0 rfl)))) rfl (fGt_i _ _ _))
      cases R with
      | nil =>
        rw [List.append_nil] at pm
        exact .inl ⟨_, cond, O, o4, o5, rfl, ordW_of pm so⟩
      | cons r0 R =>
        refine .inr ⟨G (r0 :: R) O, cond.trans (by rw [decide_eq_true (by simp)]), ?_⟩
        have hk : ∀ k ∈ r0 :: R, k < L.length := fun k hk => List.mem_range.mp (pm.mem_iff.mp (List.mem_append_right _ hk))
        obtain ⟨b, o5', eF, hb, hbest⟩ := picked (ns := ns) lw s hk (r0 := r0) rfl (n := h.length) (m := h.length + 1) (g := G (r0 :: R) O) (g0 rfl) o5
        obtain ⟨R', eR, pR, sub⟩ := remI (n := h.length) (R := r0 :: R) (b := b) (h := G (r0 :: R) (O ++ [b])) (g0 rfl) hb
        have s1 : (sSet 4 (aOp fIx (aVar 2) (aC (.int 0)))) (S o4 o5) (G (r0 :: R) O) = .fin .nx (S (some (nI r0)) o5) (G (r0 :: R) O) := sSet_ok (aOp_ok rfl rfl (fIx_loc (i := ((0 : Nat) : Int)) (g0 rfl) (atI_nat rfl)))
        have ea : mAppend (.loc (h.length + 1)) [nI b] (G (r0 :: R) O) = .ok .non (G (r0 :: R) (O ++ [b])) := by
          show mAppend (.loc (h.length + 1)) [nI b] (h ++ AO.lst ((r0 :: R).map nI) :: [AO.lst (O.map nI)]) = _
          rw [ap1 rfl (by rw [List.length_map]; omega)]
          simp [G]
        have s3 : (sExpr (aM isL mAppend (aVar 3) (aCons (aVar 4) (aNil)))) (S (some (nI b)) o5') (G (r0 :: R) O) = .fin .nx (S (some (nI b)) o5') (G (r0 :: R) (O ++ [b])) := sExpr_ok (aM_ok rfl (isL1 rfl) (aCons_ok rfl rfl) ea)
        have eR' : mRemI (.loc h.length) [nI b] (G (r0 :: R) (O ++ [b])) = .ok .non (G R' (O ++ [b])) := by
          rw [eR]
          congr 1
          show (h ++ AO.lst ((r0 :: R).map nI) :: [AO.lst ((O ++ [b]).map nI)]).set h.length _ = _
          rw [p0 rfl]
        have s4 : (sExpr (aM isL mRemI (aVar 2) (aCons (aVar 4) (aNil)))) (S (some (nI b)) o5') (G (r0 :: R) (O ++ [b])) = .fin .nx (S (some (nI b)) o5') (G R' (O ++ [b])) := sExpr_ok (aM_ok rfl (isL0 rfl) (aCons_ok rfl rfl) eR')
        refine .inl ⟨S (some (nI b)) o5', G R' (O ++ [b]), .inl (sSeq_ok s1 (sSeq_ok eF (sSeq_ok s3 s4))), ⟨R', O ++ [b], _, _, rfl, rfl, ?_, s.sublist sub, ?_, ?_⟩, ?_⟩
        · refine List.Perm.trans ?_ pm
          rw [List.append_assoc]
          exact (pR.symm.append_left O)
        · rw [List.pairwise_append]
          refine ⟨so, by simp, fun a ha x hx => ?_⟩
          rw [List.mem_singleton] at hx; subst hx
          exact sr a ha _ hb
        · intro a ha x hx
          rcases List.mem_append.mp ha with ha | ha
          · exact sr a ha x (sub.subset hx)
          · rw [List.mem_singleton] at ha; subst ha
            exact hbest x (sub.subset hx)
        · have q1 : (G R' (O ++ [b]))[h.length]? = some (.lst (R'.map nI)) := g0 rfl
          have q2 : (G (r0 :: R) O)[h.length]? = some (.lst ((r0 :: R).map nI)) := g0 rfl
          have := pR.length_eq
          simp only [q1, q2, List.length_map]
          simp at this ⊢
          omega)
    (σ := S none none) (h := G (List.range L.length) []) ⟨List.range L.length, [], none, none, rfl, rfl, .refl _, List.pairwise_lt_range, .nil, by simp⟩
  subst eO
  have s1 : sSet 2 (aLstRg1 (aFn fnLen (aCons (aOp fIx (aVar 0) (aC (.int 1))) (aNil)))) (startA 6 [netV ns L, wsV ws]) h = .fin .nx [some (netV ns L), some (wsV ws), some (.loc h.length), none, none, none] (h ++ [AO.lst ((List.range L.length).map nI)]) :=
    sSet_ok (aLstRg1_ok (n := L.length) (aFn_ok (aCons_ok (aOp_ok rfl rfl (net_1 ns L _)) rfl) (lenT (by simp) _)) (by omega))
  have s2 : sSet 3 (aLst (aNil)) [some (netV ns L), some (wsV ws), some (.loc h.length), none, none, none] (h ++ [AO.lst ((List.range L.length).map nI)]) = .fin .nx (S none none) (G (List.range L.length) []) := by
    refine (sSet_ok (aLst_ok (xs := []) rfl (by simp))).trans ?_
    simp [S, G]
  let H : AH := G [] (ordW ws L.length)
  have en : H[h.length + 1]? = some (.lst ((ordW ws L.length).map nI)) := g1 rfl
  have ef := law_forest lt n10 l20 (v := .loc (h.length + 1)) (js := ordW ws L.length) (h := H) (fun σ g e => by
    have en' : (H ++ g)[h.length + 1]? = some (.lst ((ordW ws L.length).map nI)) := by rw [List.getElem?_append_left (List.getElem?_eq_some_iff.mp en).1]; exact en
    refine ⟨_, aItS_loc e en', by show ((ordW ws L.length).map nI).length = _; simp, fun i g' => live_nxt _ ?_⟩
    rw [List.getElem?_append_left (List.getElem?_eq_some_iff.mp en).1]; exact en) (fun k hk => List.mem_range.mp ((ordW_perm ws L.length).mem_iff.mp hk))
  refine (mDef_rt (σ := S o4 o5) (h1 := H) (v := .tup ((bestK L ws).map nI)) ?_).trans (finC_ext (frz_below (low_nI _ _)))
  exact sSeq_ok s1 (sSeq_ok s2 (sSeq_ok eW (sRet_ok (aCall_ok rfl rfl ef))))
end
end G12

namespace G12
open PySem PySem.Spec
open PyProof.Rows hiding St
open L2 AB MG
variable [Errs]
/-! lines taken or left one after another -/
def rowStep (e : Nat → Nat × Nat) (k : Nat) (r : List Nat × List Nat) : Option (List Nat × List Nat) :=
  if r.2.getD (e k).1 0 = r.2.getD (e k).2 0 then none else some (r.1 ++ [k], r.2.map (gm (r.2.getD (e k).1 0) (r.2.getD (e k).2 0)))
def rowsN (e : Nat → Nat × Nat) (n : Nat) : Nat → List (List Nat × List Nat)
  | 0 => [([], List.range n)]
  | k + 1 => rowsN e n k ++ (rowsN e n k).filterMap (rowStep e k)
structure RI (e : Nat → Nat × Nat) (n k : Nat) (r : List Nat × List Nat) : Prop where
  gl : GL e n r.1 r.2
  gr : gr e [] r.1 = r.1
  srt : r.1.Pairwise (· < ·)
  lt : ∀ x ∈ r.1, x < k
theorem rows_ri {e : Nat → Nat × Nat} {n m : Nat} (le : ∀ k, k < m → (e k).1 < n ∧ (e k).2 < n) : ∀ k, k ≤ m → ∀ r ∈ rowsN e n k, RI e n k r
  | 0, _, r, hr => by
    have : r = ([], List.range n) := by simpa [rowsN] using hr
    subst this
    exact ⟨GL.start _ _, rfl, by simp, by simp⟩
  | k + 1, hk, r, hr => by
    rcases List.mem_append.mp hr with q | q
    · have := rows_ri le k (by omega) r q
      exact ⟨this.gl, this.gr, this.srt, fun x hx => by have := this.lt x hx; omega⟩
    · obtain ⟨r0, h0, es⟩ := List.mem_filterMap.mp q
      have i0 := rows_ri le k (by omega) r0 h0
      obtain ⟨la, lb⟩ := le k (by omega)
      unfold rowStep at es
      split at es
      · cases es
      · rename_i c
        cases es
        obtain ⟨g1, e1⟩ := i0.gl.join la lb c
        refine ⟨g1, by rw [e1, i0.gr], ?_, fun x hx => ?_⟩
        · rw [List.pairwise_append]
          exact ⟨i0.srt, by simp, fun x hx y hy => by rw [List.mem_singleton] at hy; subst hy; exact i0.lt x hx⟩
        · rcases List.mem_append.mp hx with hx | hx
          · have := i0.lt x hx; omega
          · rw [List.mem_singleton] at hx; omega
theorem rows_all {e : Nat → Nat × Nat} {n m : Nat} (le : ∀ k, k < m → (e k).1 < n ∧ (e k).2 < n) : ∀ k, k ≤ m → ∀ T : List Nat, T.Pairwise (· < ·) → (∀ x ∈ T, x < k) → Fst e T → ∃ hs, (T, hs) ∈ rowsN e n k
  | 0, _, T, _, hT, _ => by
    have : T = [] := by
      cases T with
      | nil => rfl
      | cons x T => have := hT x (by simp); omega
    subst this
    exact ⟨_, List.mem_singleton.mpr rfl⟩
  | k + 1, hk, T, hp, hT, f => by
    by_cases c : ∀ x ∈ T, x < k
    · obtain ⟨hs, h⟩ := rows_all le k (by omega) T hp c f
      exact ⟨hs, List.mem_append_left _ h⟩
    · rcases List.eq_nil_or_concat T with e0 | ⟨T', x, e0⟩
      · subst e0; simp at c
      · rw [List.concat_eq_append] at e0
        subst e0
        rw [List.pairwise_append] at hp
        have hlt : ∀ y ∈ T', y < x := fun y hy => hp.2.2 y hy x (by simp)
        have hx := hT x (by simp)
        have : x = k := Classical.byContradiction fun d => c fun y hy => by
          rcases List.mem_append.mp hy with hy | hy
          · have := hlt y hy; omega
          · rw [List.mem_singleton] at hy; omega
        subst this
        obtain ⟨hs, h⟩ := rows_all le x (by omega) T' hp.1 hlt (f.sub fun y hy => List.mem_append_left _ hy)
        have i0 := rows_ri le x (by omega) _ h
        obtain ⟨la, lb⟩ := le x (by omega)
        have ne : hs.getD (e x).1 0 ≠ hs.getD (e x).2 0 := fun q => by
          have j := i0.gl.li.two _ _ la lb q
          rw [i0.gr] at j
          exact f x (by simp) (j.mono fun y hy => mem_wo.mpr ⟨List.mem_append_left _ hy, by have := hlt y hy; omega⟩)
        exact ⟨_, List.mem_append_right _ (List.mem_filterMap.mpr ⟨_, h, by unfold rowStep; rw [if_neg ne]⟩)⟩
theorem rows_len (e : Nat → Nat × Nat) (n : Nat) : ∀ k, (rowsN e n k).length ≤ 2 ^ k
  | 0 => by simp [rowsN]
  | k + 1 => by
    have h1 := rows_len e n k
    have h2 := List.length_filterMap_le (rowStep e k) (rowsN e n k)
    have e1 : (rowsN e n (k + 1)).length = (rowsN e n k).length + ((rowsN e n k).filterMap (rowStep e k)).length := by rw [rowsN, List.length_append]
    have e2 : 2 ^ (k + 1) = 2 * 2 ^ k := by rw [Nat.pow_succ]; omega
    omega
/-! the walk -/
def rV (r : List Nat × List Nat) : PV := .tup [.tup (r.1.map nI), .tup (r.2.map nI)]
def Liv (v : PV) (xs : List PV) (h : AH) : Prop := v = .lst xs ∨ ∃ n, v = .loc n ∧ h[n]? = some (.lst xs)
theorem Liv.lst {v : PV} {xs : List PV} {h : AH} (l : Liv v xs h) : lstOf v h = some xs := by
  rcases l with rfl | ⟨n, rfl, e⟩
  · exact lstOf_lst _ _
  · exact lstOf_loc e
theorem Liv.app {v : PV} {xs : List PV} {h : AH} (l : Liv v xs h) (g : AH) : Liv v xs (h ++ g) := by
  rcases l with rfl | ⟨n, rfl, e⟩
  · exact .inl rfl
  · exact .inr ⟨n, rfl, by rw [List.getElem?_append_left (List.getElem?_eq_some_iff.mp e).1]; exact e⟩
theorem aItS_liv {m : AE} {σ : ASt} {h h1 : AH} {v : PV} {xs : List PV} (e : m σ h = .ok v h1) (l : Liv v xs h1) : ∃ A, aItS m σ h = .ok A h1 ∧ A.n = xs.length ∧ ∀ g, Liv v xs g → ∀ i, A.nxt i g = some xs[i]? := by
  rcases l with rfl | ⟨n, rfl, en⟩
  · obtain ⟨A, e1, e2, e3⟩ := aItS_lst _ _ _ _ _ e
    exact ⟨A, e1, e2, fun g _ i => e3 i g⟩
  · refine ⟨_, aItS_loc e en, rfl, fun g lg i => live_nxt _ ?_⟩
    rcases lg with q | ⟨m, q, eg⟩
    · cases q
    · cases q; exact eg
theorem fAdd_liv {v w : PV} {xs ys : List PV} {h : AH} (l1 : Liv v xs h) (l2 : Liv w ys h) (nn : (∃ n, v = .loc n) ∨ ∃ n, w = .loc n) (hz : xs.length + ys.length ≤ 1000000) : fAdd v w h = .ok (.loc h.length) (h ++ [.lst (xs ++ ys)]) := by
  rcases l1 with rfl | ⟨n, rfl, e1⟩
  · rcases l2 with rfl | ⟨m, rfl, e2⟩
    · rcases nn with ⟨_, q⟩ | ⟨_, q⟩ <;> cases q
    · show (match lstOf (.lst xs) h, lstOf (.loc m) h with | some xs, some ys => _ | _, _ => _) = _
      rw [lstOf_loc e2, lstOf_lst]
      exact if_pos (size_ok hz)
  · rcases l2 with rfl | ⟨m, rfl, e2⟩
    · exact fAdd_ll e1 hz
    · exact fAdd_lo e1 e2 hz
noncomputable abbrev eC9 : AE := (aLc (aItS (aVar 5)) [9] (gN 9) (tYes') (aIf (aB (aOp fIn (aVar 9) (aTup (aCons (aVar 6) (aCons (aVar 7) (aNil)))))) (aVar 8) (aVar 9)))
noncomputable abbrev bdR : AS := (sSeq (sAsg (aTup (aCons (aOp fIx (aVar 5) (aOp fIx (aOp fIx (aOp fIx (aVar 0) (aC (.int 1))) (aVar 2)) (aC (.int 1)))) (aCons (aOp fIx (aVar 5) (aOp fIx (aOp fIx (aOp fIx (aVar 0) (aC (.int 1))) (aVar 2)) (aC (.int 2)))) (aNil)))) (gTup' 2 (gCons' (gN 6) (gCons' (gN 7) (gNil'))))) (sIf (aB (aOp fNe (aVar 6) (aVar 7))) (sSeq (sSet 8 (aFn fnMin (aCons (aVar 6) (aCons (aVar 7) (aNil))))) (sExpr (aM isL mAppend (aVar 3) (aCons (aTup (aCons (aOp fAdd (aVar 4) (aTup (aCons (aVar 2) (aNil)))) (aCons (aFn fnTuple (aCons eC9 (aNil))) (aNil)))) (aNil))))) (sNext)))
theorem min_i (a b : Nat) (h : AH) : fnMin [nI a, nI b] h = .ok (nI (min a b)) h := by
  show Res.ok (PV.int (if (b : Int) < a then (b : Int) else a)) _ = .ok (.int ((min a b : Nat) : Int)) _
  by_cases q : b < a
  · rw [if_pos (by omega), Nat.min_eq_right (by omega)]
  · rw [if_neg (by omega), Nat.min_eq_left (by omega)]
section
variable {ns : List Str} {L : List (Str × Nat × Nat)}
theorem row_lc {σ : ASt} {h : AH} {hs : List Nat} {a b : Nat} {o0 o1 o2 o3 o4 : Option PV} (es : σ = [o0, o1, o2, o3, o4, some (.tup (hs.map nI)), some (nI a), some (nI b), some (nI (min a b)), none]) (hz : hs.length ≤ 1000) :
    eC9 σ h = .ok (.loc h.length) (h ++ [AO.lst ((hs.map (gm a b)).map nI)]) := by
  subst es
  have el := aLc_map (vs := [9]) (g := gN 9) (t := tYes') (e := (aIf (aB (aOp fIn (aVar 9) (aTup (aCons (aVar 6) (aCons (aVar 7) (aNil)))))) (aVar 8) (aVar 9))) (aItS_tup (aVar 5) [o0, o1, o2, o3, o4, some (.tup (hs.map nI)), some (nI a), some (nI b), some (nI (min a b)), none] h h _ rfl) (hs.map nI) (fun x => match x with | .int s => nI (gm a b s.toNat) | x => x) (Nat.le_refl _) (by simp; omega) (fun i acc _ => rfl) (fun x hx acc => by
    obtain ⟨s, hs', rfl⟩ := List.mem_map.mp hx
    let σ1 : ASt := [o0, o1, o2, o3, o4, some (.tup (hs.map nI)), some (nI a), some (nI b), some (nI (min a b)), some (nI s)]
    refine ⟨σ1, rfl, rfl, ?_⟩
    have et : (aTup (aCons (aVar 6) (aCons (aVar 7) (aNil)))) σ1 (h ++ [AO.lst acc]) = .ok (.tup ([a, b].map nI)) (h ++ [AO.lst acc]) := aTup_ok (aCons_ok rfl (aCons_ok rfl rfl)) (by simp)
    have ec : (aB (aOp fIn (aVar 9) (aTup (aCons (aVar 6) (aCons (aVar 7) (aNil)))))) σ1 (h ++ [AO.lst acc]) = .ok (decide (s ∈ [a, b])) (h ++ [AO.lst acc]) := aB_ok (aOp_ok rfl et (fIn_nn (seqOf_tup _ _)))
    show _ = Res.ok (nI (gm a b s)) _
    unfold gm
    by_cases d : s = a ∨ s = b
    · rw [decide_eq_true (by simpa using d)] at ec
      rw [if_pos d]
      exact (aIf_t ec).trans rfl
    · rw [decide_eq_false (by simpa using d)] at ec
      rw [if_neg d]
      exact (aIf_f ec).trans rfl)
  have em : (hs.map nI).map (fun x => match x with | .int s => nI (gm a b s.toNat) | x => x) = (hs.map (gm a b)).map nI := by rw [List.map_map, List.map_map]; rfl
  rw [em] at el
  exact el
theorem row_in {A J : AH} {k : Nat} (kl : k < L.length) {r : List Nat × List Nat} (la : (edg L k).1 < r.2.length) (lb : (edg L k).2 < r.2.length) (hz : r.2.length ≤ 1000) (hz1 : r.1.length ≤ 1000) {M : List (List Nat × List Nat)} (hM : M.length < 1000000) {v : PV} (o6 o7 o8 : Option PV) :
    ∃ (J' : AH) (o6' o7' o8' : Option PV), bdR [some (netV ns L), some v, some (nI k), some (.loc A.length), some (.tup (r.1.map nI)), some (.tup (r.2.map nI)), o6, o7, o8, none] (A ++ AO.lst (M.map rV) :: J) = .fin .nx [some (netV ns L), some v, some (nI k), some (.loc A.length), some (.tup (r.1.map nI)), some (.tup (r.2.map nI)), o6', o7', o8', none] (A ++ AO.lst ((M ++ (rowStep (edg L) k r).toList).map rV) :: J') := by
  let S : Option PV → Option PV → Option PV → ASt := fun o6 o7 o8 => [some (netV ns L), some v, some (nI k), some (.loc A.length), some (.tup (r.1.map nI)), some (.tup (r.2.map nI)), o6, o7, o8, none]
  let H : AH := A ++ AO.lst (M.map rV) :: J
  let a := r.2.getD (edg L k).1 0
  let b := r.2.getD (edg L k).2 0
  have s1 := sAsg_ok (g := gTup' 2 (gCons' (gN 6) (gCons' (gN 7) (gNil')))) (h2 := H) (σ2 := S (some (nI a)) (some (nI b)) o8) (ends_two (ns := ns) (σ := S o6 o7 o8) (h := H) (g := 0) (il := 2) (ig := 5) (hs := r.2) kl rfl rfl rfl (fun j hj => fIx_tup (nI_get (by rw [List.getD_eq_getElem?_getD, List.getElem?_eq_getElem hj]; rfl))) la lb) rfl
  have ec : (aB (aOp fNe (aVar 6) (aVar 7))) (S (some (nI a)) (some (nI b)) o8) H = .ok (!decide ((a : Int) = b)) H := aB_ok (aOp_ok rfl rfl (fNe_i _ _ _))
  by_cases c : a = b
  · rw [decide_eq_true (by omega)] at ec
    refine ⟨J, some (nI a), some (nI b), o8, ?_⟩
    have e0 : rowStep (edg L) k r = none := by unfold rowStep; rw [if_pos c]
    rw [e0, Option.toList_none, List.append_nil]
    exact sSeq_ok s1 ((sIf_f ec).trans rfl)
  · rw [decide_eq_false (by omega)] at ec
    have e0 : rowStep (edg L) k r = some (r.1 ++ [k], r.2.map (gm a b)) := by unfold rowStep; rw [if_neg c]
    let σ2 := S (some (nI a)) (some (nI b)) (some (nI (min a b)))
    have s2 : sSet 8 (aFn fnMin (aCons (aVar 6) (aCons (aVar 7) (aNil)))) (S (some (nI a)) (some (nI b)) o8) H = .fin .nx σ2 H := sSet_ok (aFn_ok (xs := [nI a, nI b]) rfl (min_i a b _))
    have lc := row_lc (σ := σ2) (h := H) (hs := r.2) (a := a) (b := b) rfl hz
    have et : (aTup (aCons (aOp fAdd (aVar 4) (aTup (aCons (aVar 2) (aNil)))) (aCons (aFn fnTuple (aCons eC9 (aNil))) (aNil)))) σ2 H = .ok (rV (r.1 ++ [k], r.2.map (gm a b))) (H ++ [AO.lst ((r.2.map (gm a b)).map nI)]) := by
      refine aTup_ok (xs := [.tup ((r.1 ++ [k]).map nI), .tup ((r.2.map (gm a b)).map nI)]) (aCons_ok (h1 := H) (aOp_ok (x := .tup (r.1.map nI)) (y := .tup [nI k]) rfl (aTup_ok (xs := [nI k]) (aCons_ok rfl rfl) (by simp)) ?_) (aCons_ok (aFn_ok (aCons_ok (l := aNil) lc rfl) (fnTuple_s (seqOf_loc (getLast_app _ _)))) rfl)) (by simp)
      rw [fAdd_t (by simp; omega), List.map_append]; rfl
    have ea : mAppend (.loc A.length) [rV (r.1 ++ [k], r.2.map (gm a b))] (H ++ [AO.lst ((r.2.map (gm a b)).map nI)]) = .ok .non (A ++ AO.lst ((M ++ [(r.1 ++ [k], r.2.map (gm a b))]).map rV) :: (J ++ [AO.lst ((r.2.map (gm a b)).map nI)])) := by
      have : H ++ [AO.lst ((r.2.map (gm a b)).map nI)] = A ++ AO.lst (M.map rV) :: (J ++ [AO.lst ((r.2.map (gm a b)).map nI)]) := by show (A ++ _) ++ _ = _; rw [List.append_assoc]; rfl
      rw [this, ap0 rfl (by rw [List.length_map]; exact hM), List.map_append]; rfl
    refine ⟨J ++ [AO.lst ((r.2.map (gm a b)).map nI)], some (nI a), some (nI b), some (nI (min a b)), ?_⟩
    rw [e0]
    refine sSeq_ok s1 ((sIf_t ec).trans (sSeq_ok s2 (sExpr_ok (aM_ok rfl (isL0 rfl) (aCons_ok (l := aNil) et rfl) ea))))
end
end G12

namespace G12
open PySem PySem.Spec
open PyProof.Rows hiding St
open L2 AB MG
variable [Errs]
def tN (T : List Nat) : PV := .tup (T.map nI)
theorem zip_fm {F : PV → Option PV} : ∀ (xs : List PV) (k : Nat), ((xs.zipIdx k).filterMap fun p => F p.1) = xs.filterMap F
  | [], _ => rfl
  | x :: xs, k => by
    rw [List.zipIdx_cons, List.filterMap_cons, List.filterMap_cons, zip_fm xs (k + 1)]
def keepF (m : Nat) : PV → Option PV
  | .tup [.tup t, _] => if t.length = m then some (.tup t) else none
  | _ => none
theorem keep_rows (m : Nat) : ∀ rs : List (List Nat × List Nat), (rs.map rV).filterMap (keepF m) = ((rs.filter fun r => decide (r.1.length = m)).map Prod.fst).map tN
  | [] => rfl
  | r :: rs => by
    rw [List.map_cons, List.filterMap_cons, List.filter_cons, keep_rows m rs]
    have e : keepF m (rV r) = if r.1.length = m then some (tN r.1) else none := by
      show (if (r.1.map nI).length = m then _ else _) = _
      rw [List.length_map]; rfl
    rw [e]
    by_cases c : r.1.length = m
    · rw [if_pos c, if_pos (decide_eq_true c)]; rfl
    · rw [if_neg c, if_neg (by rw [decide_eq_false c]; decide)]
theorem sortT_n {v : PV} {ts : List (List Nat)} {d : Nat} {h : AH} (e : lstOf v h = some (ts.map tN)) (hd : 1 ≤ d) (ne : ts ≠ []) (hl : ∀ t ∈ ts, t.length = d ∧ ∀ k ∈ t, k < 1000) : ∃ us : List (List Nat), fnSortT [v] h = .ok (.loc h.length) (h ++ [.lst (us.map tN)]) ∧ us.Perm ts := by
  let zs : List (List Int) := ts.map fun t => t.map fun k : Nat => (k : Int)
  have ez : ts.map tN = zs.map tI := by
    show _ = (ts.map _).map tI
    rw [List.map_map]
    exact List.map_congr_left fun t _ => by show PV.tup (t.map nI) = .tup ((t.map _).map .int); rw [nI_map]
  have ok : okT zs = true := by
    have hd' : dT zs = d := by
      cases ts with
      | nil => exact absurd rfl ne
      | cons t ts => show (t.map fun k : Nat => (k : Int)).length = d; rw [List.length_map]; exact (hl t (by simp)).1
    rw [okT_iff, hd']
    refine ⟨hd, fun z hz => ?_⟩
    obtain ⟨t, ht, rfl⟩ := List.mem_map.mp hz
    refine ⟨by rw [List.length_map]; exact (hl t ht).1, fun m hm => ?_⟩
    obtain ⟨k, hk, rfl⟩ := List.mem_map.mp hm
    have := (hl t ht).2 k hk
    unfold cB
    omega
  have pm := List.mergeSort_perm zs leT
  obtain ⟨us, eu, pu⟩ := perm_inv (f := fun t : List Nat => t.map fun k : Nat => (k : Int)) (g := fun z => z.map Int.toNat) (fun t => by
    rw [List.map_map]
    exact (List.map_congr_left fun k _ => rfl).trans (List.map_id _)) pm
  refine ⟨us, ?_, pu⟩
  unfold fnSortT
  dsimp only
  rw [e, ez, Option.bind_some, tupsOf_map]
  dsimp only
  rw [if_pos ok, eu, List.map_map]
  have : us.map (tI ∘ fun t : List Nat => t.map fun k : Nat => (k : Int)) = us.map tN := List.map_congr_left fun t _ => by show PV.tup ((t.map _).map .int) = .tup (t.map nI); rw [nI_map]
  rw [this]; rfl
section
variable {ns : List Str} {L : List (Str × Nat × Nat)} (N : Net ns L) (l8 : L.length ≤ 8) (n2 : 2 ≤ ns.length)
theorem tree_len (N : Net ns L) {ks : List Nat} (T : Tree ns.length L ks) : ks.length + 1 = ns.length :=
  (fst_len N.pos (fun k hk => edg_lt N.lt (T.lt k hk)) T.fst T.nd).2.mpr fun p hp => T.cn 0 p N.pos hp
theorem Tree.asc {n : Nat} {ks : List Nat} (T : Tree n L ks) : ks.Pairwise (· < ·) := by
  have := List.pairwise_and_iff.mpr ⟨T.srt, List.nodup_iff_pairwise_ne.mp T.nd⟩
  exact this.imp fun h => by omega
include N l8 n2
theorem keep_tree (T : List Nat) : T ∈ ((rowsN (edg L) ns.length L.length).filter fun r => decide (r.1.length = ns.length - 1)).map Prod.fst ↔ Tree ns.length L T := by
  have le : ∀ k, k < L.length → (edg L k).1 < ns.length ∧ (edg L k).2 < ns.length := fun k hk => edg_lt N.lt hk
  constructor
  · intro h
    obtain ⟨r, hr, rfl⟩ := List.mem_map.mp h
    obtain ⟨hr, hl⟩ := List.mem_filter.mp hr
    rw [decide_eq_true_iff] at hl
    have i := rows_ri le L.length (Nat.le_refl _) r hr
    obtain ⟨f, nd⟩ := gr_fst (e := edg L) r.1 [] ⟨Fst.nil, List.nodup_nil⟩
    rw [i.gr] at f nd
    have c := (fst_len N.pos (fun k hk => le k (i.lt k hk)) f nd).2.mp (by omega)
    exact ⟨i.lt, i.srt.imp fun h => by omega, nd, f, fun a b ha hb => (c a ha).sm.tr (c b hb)⟩
  · intro t
    obtain ⟨hs, h⟩ := rows_all le L.length (Nat.le_refl _) T t.asc t.lt t.fst
    have := tree_len N t
    exact List.mem_map.mpr ⟨_, List.mem_filter.mpr ⟨h, by rw [decide_eq_true_iff]; show T.length = _; omega⟩, rfl⟩
theorem trees (h : AH) : ∃ TS : List (List Nat), m__law_trees [netV ns L] h = .ok (.lst (TS.map tN)) h ∧ (∀ T, T ∈ TS ↔ Tree ns.length L T) ∧ TS.length ≤ 256 := by
  have n10 := N.n10
  unfold m__law_trees b__law_trees
  have le : ∀ k, k < L.length → (edg L k).1 < ns.length ∧ (edg L k).2 < ns.length := fun k hk => edg_lt N.lt hk
  let R : Nat → List (List Nat × List Nat) := rowsN (edg L) ns.length
  have pw : ∀ k, k ≤ 8 → 2 ^ k ≤ 256 := fun k hk => Nat.pow_le_pow_right (n := 2) (by omega) hk
  have lR : ∀ k, k ≤ L.length → (R k).length ≤ 256 := fun k hk => Nat.le_trans (rows_len _ _ k) (pw k (by omega))
  have ri := rows_ri (n := ns.length) le
  let S : PV → Option PV → Option PV → Option PV → Option PV → Option PV → Option PV → Option PV → ASt := fun v o2 o3 o4 o5 o6 o7 o8 => [some (netV ns L), some v, o2, o3, o4, o5, o6, o7, o8, none]
  let V0 : PV := .lst [rV ([], List.range ns.length)]
  obtain ⟨σ', G, eF, v, o2, o3, o4, o5, o6, o7, o8, J, rfl, rfl, lv⟩ := for_rg (g := gN 2) (b := (sSeq (sSet 3 (aLst (aNil))) (sSeq (sFor (aItS (aVar 1)) (gTup' 2 (gCons' (gN 4) (gCons' (gN 5) (gNil')))) bdR) (sSet 1 (aOp fAdd (aVar 1) (aVar 3)))))) 0 L.length
    (fun k σ g => ∃ (v : PV) (o2 o3 o4 o5 o6 o7 o8 : Option PV) (J : AH), σ = S v o2 o3 o4 o5 o6 o7 o8 ∧ g = h ++ J ∧ Liv v ((R k).map rV) g) (σ := S V0 none none none none none none none) (h := h) ⟨V0, none, none, none, none, none, none, none, [], rfl, (List.append_nil h).symm, .inl rfl⟩
    (fun k σ g hk ⟨v, o2, o3, o4, o5, o6, o7, o8, J, e1, e2, lv⟩ => by
      subst e1
      let A : AH := g
      let σ1 := S v (some (nI k)) (some (.loc A.length)) o4 o5 o6 o7 o8
      have s1 : sSet 3 (aLst (aNil)) (S v (some (nI k)) o3 o4 o5 o6 o7 o8) A = .fin .nx σ1 (A ++ [AO.lst []]) := sSet_ok (aLst_ok (xs := []) rfl (by simp))
      obtain ⟨B, eB, nB, xB⟩ := aItS_liv (m := aVar 1) (σ := σ1) (h := A ++ [AO.lst []]) rfl (lv.app _)
      let P : Nat → List (List Nat × List Nat) := fun i => ((R k).take i).filterMap (rowStep (edg L) k)
      have lP : ∀ i, (P i).length ≤ 256 := fun i => by
        have a1 := List.length_filterMap_le (rowStep (edg L) k) ((R k).take i)
        have a2 := lR k (by omega)
        rw [List.length_take] at a1
        show (((R k).take i).filterMap (rowStep (edg L) k)).length ≤ _
        omega
      obtain ⟨o4', o5', o6', o7', o8', J1, eI⟩ : ∃ (o4' o5' o6' o7' o8' : Option PV) (J1 : AH), forA B (gTup' 2 (gCons' (gN 4) (gCons' (gN 5) (gNil')))) bdR B.n 0 σ1 (A ++ [AO.lst []]) = .fin .nx (S v (some (nI k)) (some (.loc A.length)) o4' o5' o6' o7' o8') (A ++ AO.lst ((P (R k).length).map rV) :: J1) := by
        refine forA_rule (a := B) (g := gTup' 2 (gCons' (gN 4) (gCons' (gN 5) (gNil')))) (b := bdR) ((R k).map rV)
          (fun i σ g => ∃ (o4 o5 o6 o7 o8 : Option PV) (J1 : AH), σ = S v (some (nI k)) (some (.loc A.length)) o4 o5 o6 o7 o8 ∧ g = A ++ AO.lst ((P i).map rV) :: J1)
          (fun r => ∃ (o4' o5' o6' o7' o8' : Option PV) (J1 : AH), r = .fin .nx (S v (some (nI k)) (some (.loc A.length)) o4' o5' o6' o7' o8') (A ++ AO.lst ((P (R k).length).map rV) :: J1)) (by omega)
          (fun i σ g _ ⟨o4, o5, o6, o7, o8, J1, e1, e2⟩ => by rw [e2]; exact xB _ (lv.app _) i)
          (fun i x σ g ex ⟨o4, o5, o6, o7, o8, J1, e1, e2⟩ => by
            subst e1; subst e2
            rw [List.getElem?_map] at ex
            obtain ⟨r, er, rfl⟩ := Option.map_eq_some_iff.mp ex
            have i0 := ri k (by omega) r (List.mem_of_getElem? er)
            obtain ⟨la, lb⟩ := le k hk
            have hl := i0.gl.li.len
            have l1 : r.1.length ≤ 1000 := by
              have := len_lt (n := k) (List.nodup_iff_pairwise_ne.mpr (i0.srt.imp fun h => by omega)) i0.lt
              omega
            obtain ⟨J', p6, p7, p8, eb⟩ := row_in (ns := ns) (A := A) (J := J1) hk (r := r) (by omega) (by omega) (by omega) l1 (M := P i) (by have := lP i; omega) (v := v) o6 o7 o8
            have eP : P (i + 1) = P i ++ (rowStep (edg L) k r).toList := by
              show ((R k).take (i + 1)).filterMap _ = _
              rw [List.take_succ, er, List.filterMap_append]
              congr 1
            refine ⟨S v (some (nI k)) (some (.loc A.length)) (some (.tup (r.1.map nI))) (some (.tup (r.2.map nI))) o6 o7 o8, A ++ AO.lst ((P i).map rV) :: J1, rfl, .inl ⟨_, _, .inl eb, _, _, _, _, _, J', rfl, by rw [eP]⟩⟩)
          (fun σ g ⟨o4, o5, o6, o7, o8, J1, e1, e2⟩ => ⟨o4, o5, o6, o7, o8, J1, by rw [e1, e2, List.length_map]⟩)
          ⟨o4, o5, o6, o7, o8, [], rfl, rfl⟩
      have eP : R (k + 1) = R k ++ P (R k).length := by
        show R k ++ (R k).filterMap _ = R k ++ ((R k).take (R k).length).filterMap _
        rw [List.take_length]
      let H1 : AH := A ++ AO.lst ((P (R k).length).map rV) :: J1
      have l1 : Liv v ((R k).map rV) H1 := lv.app _
      have l2 : Liv (.loc A.length) ((P (R k).length).map rV) H1 := .inr ⟨_, rfl, g0 rfl⟩
      have s3 : sSet 1 (aOp fAdd (aVar 1) (aVar 3)) (S v (some (nI k)) (some (.loc A.length)) o4' o5' o6' o7' o8') H1 = .fin .nx (S (.loc H1.length) (some (nI k)) (some (.loc A.length)) o4' o5' o6' o7' o8') (H1 ++ [AO.lst ((R k).map rV ++ (P (R k).length).map rV)]) := sSet_ok (aOp_ok rfl rfl (fAdd_liv l1 l2 (.inr ⟨_, rfl⟩) (by
          have := lP (R k).length
          have := lR k (by omega)
          simp; omega)))
      refine ⟨S v (some (nI k)) o3 o4 o5 o6 o7 o8, A, S (.loc H1.length) (some (nI k)) (some (.loc A.length)) o4' o5' o6' o7' o8', H1 ++ [AO.lst ((R k).map rV ++ (P (R k).length).map rV)], ?_, sSeq_ok s1 (sSeq_ok (sFor_ok eB eI) s3), _, _, _, _, _, _, _, _, J ++ AO.lst ((P (R k).length).map rV) :: J1 ++ [AO.lst ((R k).map rV ++ (P (R k).length).map rV)], rfl, ?_, .inr ⟨_, rfl, ?_⟩⟩
      · rw [Int.zero_add]; rfl
      · show (g ++ _) ++ _ = _
        rw [e2]; simp
      · rw [getLast_app, eP, List.map_append])
  let RS := R L.length
  let TS := (RS.filter fun r => decide (r.1.length = ns.length - 1)).map Prod.fst
  have lTS : TS.length ≤ 256 := by
    show ((RS.filter _).map Prod.fst).length ≤ 256
    rw [List.length_map]
    exact Nat.le_trans (List.length_filter_le _ _) (lR _ (Nat.le_refl _))
  have kt : ∀ T, T ∈ TS ↔ Tree ns.length L T := keep_tree N l8 n2
  let G : AH := h ++ J
  let σ := S v o2 o3 o4 o5 o6 o7 o8
  obtain ⟨B, eB, nB, xB⟩ := aItS_liv (m := aVar 1) (σ := σ) (h := G) rfl lv
  have el : (aLc (aItS (aVar 1)) [4, 5] (gTup' 2 (gCons' (gN 4) (gCons' (gN 5) (gNil')))) (aB (aOp fEq (aFn fnLen (aCons (aVar 4) (aNil))) (aOp fSub (aFn fnLen (aCons (aOp fIx (aVar 0) (aC (.int 0))) (aNil))) (aC (.int 1))))) (aVar 4)) σ G = .ok (.loc G.length) (G ++ [AO.lst (TS.map tN)]) := by
    have q := aLc_pure (vs := [4, 5]) (g := gTup' 2 (gCons' (gN 4) (gCons' (gN 5) (gNil')))) (t := (aB (aOp fEq (aFn fnLen (aCons (aVar 4) (aNil))) (aOp fSub (aFn fnLen (aCons (aOp fIx (aVar 0) (aC (.int 0))) (aNil))) (aC (.int 1)))))) (e := aVar 4) eB (RS.map rV) (fun _ x => keepF (ns.length - 1) x) (Nat.le_of_eq nB.symm) (by have := lR L.length (Nat.le_refl _); simp [RS]; omega) (fun i acc _ => xB _ (lv.app _) i) (fun i x acc ex => by
      rw [List.getElem?_map] at ex
      obtain ⟨r, er, rfl⟩ := Option.map_eq_some_iff.mp ex
      let σ1 := S v o2 o3 (some (.tup (r.1.map nI))) (some (.tup (r.2.map nI))) o6 o7 o8
      have et : (aB (aOp fEq (aFn fnLen (aCons (aVar 4) (aNil))) (aOp fSub (aFn fnLen (aCons (aOp fIx (aVar 0) (aC (.int 0))) (aNil))) (aC (.int 1))))) σ1 (G ++ [AO.lst acc]) = .ok (decide ((r.1.length : Int) = (ns.length : Int) - 1)) (G ++ [AO.lst acc]) :=
        aB_ok (aOp_ok (aFn_ok rfl (lenT (by simp) _)) (aOp_ok (aFn_ok (aCons_ok (l := aNil) (aOp_ok rfl rfl (net_0 ns L _)) rfl) (lenT (n := ns.length) (by simp) _)) rfl (fSub_i _ _ _)) (fEq_i _ _ _))
      refine ⟨σ1, rfl, ?_⟩
      have ek : keepF (ns.length - 1) (rV r) = if r.1.length = ns.length - 1 then some (tN r.1) else none := by
        show (if (r.1.map nI).length = ns.length - 1 then _ else _) = _
        rw [List.length_map]; rfl
      show _ ∨ _
      rw [ek]
      by_cases c : r.1.length = ns.length - 1
      · rw [decide_eq_true (by omega)] at et
        rw [if_pos c]
        exact .inr ⟨_, et, rfl, rfl⟩
      · rw [decide_eq_false (by omega)] at et
        rw [if_neg c]
        exact .inl ⟨et, rfl⟩)
    rw [q, zip_fm, keep_rows]
  have ne : TS ≠ [] := fun q => by
    have := (kt _).mpr (bestK_tree N (ws := []))
    rw [q] at this; cases this
  obtain ⟨US, es, pU⟩ := sortT_n (v := .loc G.length) (ts := TS) (d := ns.length - 1) (h := G ++ [AO.lst (TS.map tN)]) (lstOf_loc (getLast_app _ _)) (by omega) ne (fun t ht => by
    have T := (kt t).mp ht
    have := tree_len N T
    exact ⟨by omega, fun k hk => by have := T.lt k hk; omega⟩)
  refine ⟨US, ?_, fun T => (pU.mem_iff).trans (kt T), by rw [pU.length_eq]; exact lTS⟩
  have s1 : sSet 1 (aCut (aLst (aCons (aTup (aCons (aTup (aNil)) (aCons (aTupRg1 (aFn fnLen (aCons (aOp fIx (aVar 0) (aC (.int 0))) (aNil)))) (aNil)))) (aNil)))) (startA 10 [netV ns L]) h = .fin .nx (S V0 none none none none none none none) h := by
    have e1 : (aTup (aCons (aTup (aNil)) (aCons (aTupRg1 (aFn fnLen (aCons (aOp fIx (aVar 0) (aC (.int 0))) (aNil)))) (aNil)))) (startA 10 [netV ns L]) h = .ok (rV ([], List.range ns.length)) h :=
      aTup_ok (xs := [.tup [], .tup ((List.range ns.length).map nI)]) (aCons_ok (aTup_ok (xs := []) rfl (by simp)) (aCons_ok (aTupRg1_ok (n := ns.length) (aFn_ok (aCons_ok (aOp_ok rfl rfl (net_0 ns L _)) rfl) (lenT (by simp) _)) (by omega)) rfl)) (by simp)
    refine sSet_ok ((aCut_ok (aLst_ok (xs := [rV ([], List.range ns.length)]) (aCons_ok e1 rfl) (by simp))).trans (finC_ext (frz_new (Nat.le_refl _) (getLast_app _ _) ?_)))
    have := low_tupn h.length (List.range ns.length)
    simp [rV, PV.low, PV.lows] at this ⊢
    exact this
  have ea : aItR1 (aCons (aFn fnLen (aCons (aOp fIx (aVar 0) (aC (.int 1))) (aNil))) (aNil)) (S V0 none none none none none none none) h = .ok (itRg 0 L.length) h := aItR1_ok (j := L.length) (aCons_ok (l := aNil) (aFn_ok (aCons_ok (l := aNil) (aOp_ok rfl rfl (net_1 ns L _)) rfl) (lenT (by simp) _)) rfl) (by omega) (by omega)
  have lw : PV.lows h.length (US.map tN) = true := low_all fun x hx => by
    obtain ⟨t, _, rfl⟩ := List.mem_map.mp hx
    exact low_tupn _ _
  refine (mDef_rt (σ := σ) (h1 := G ++ [AO.lst (TS.map tN)] ++ [AO.lst (US.map tN)]) (v := .loc (G ++ [AO.lst (TS.map tN)]).length) ?_).trans ?_
  · refine sSeq_ok s1 (sSeq_ok (sFor_ok ea eF) ?_)
    exact sRet_ok (aFn_ok (aCons_ok (l := aNil) el rfl) es)
  · have e0 : G ++ [AO.lst (TS.map tN)] ++ [AO.lst (US.map tN)] = h ++ (J ++ [AO.lst (TS.map tN)] ++ [AO.lst (US.map tN)]) := by simp [G]
    rw [e0]
    refine finC_ext (frz_new (by simp [G]) ?_ lw)
    rw [← e0]
    exact getLast_app _ _
end
end G12

namespace G12
open PySem PySem.Spec
open PyProof.Rows hiding St
open L2 AB MG
variable [Errs]
/-! drawn worths -/
noncomputable abbrev eWd : AE := (aOp fIx (aTup (aCons (aOp fSub (aCall 3 m__law_pour (aCons (aVar 0) (aCons (aOp fAdd (aOp fMul (aC (.int 2)) (aVar 2)) (aC (.int 1))) (aCons (aC (.int 5)) (aNil))))) (aVar 2)) (aCons (aC (.int 20)) (aCons (aUn fNeg (aC (.int 20))) (aCons (aC (.int 0)) (aNil)))))) (aOp fFdiv (aCall 3 m__law_pour (aCons (aVar 0) (aCons (aC (.int 9)) (aCons (aC (.int 6)) (aNil))))) (aC (.int 6))))
theorem worth_one {h : AH} (t : Tp h) (J : AH) {s : Int} (s0 : 1 ≤ s) (s1 : s ≤ 20) {σ : ASt} (h0 : ∀ g, aVar 0 σ g = .ok (.loc 3) g) (h2 : ∀ g, aVar 2 σ g = .ok (.int s) g) : ∃ (w : Int) (h' : AH), eWd σ (h ++ J) = .ok (.int w) (h' ++ J) ∧ Mv h h' ∧ -20 ≤ w ∧ w ≤ 20 := by
  obtain ⟨r, ha, er, r0, r1, ma⟩ := pourG t J (k := 2 * s + 1) (sp := 5) (by omega) (by omega) (by omega)
  have ta := t.mv ma
  obtain ⟨q, hb, eq, q0, q1, mb⟩ := pourG ta J (k := 9) (sp := 6) (by omega) (by omega) (by omega)
  have e1 : (aOp fAdd (aOp fMul (aC (.int 2)) (aVar 2)) (aC (.int 1))) σ (h ++ J) = .ok (.int (2 * s + 1)) (h ++ J) := aOp_ok (x := .int (2 * s)) (aOp_ok rfl (h2 _) (fMul_i (by omega) (by omega) _)) rfl (fAdd_i _ _ _)
  have e2 : (aOp fSub (aCall 3 m__law_pour (aCons (aVar 0) (aCons (aOp fAdd (aOp fMul (aC (.int 2)) (aVar 2)) (aC (.int 1))) (aCons (aC (.int 5)) (aNil))))) (aVar 2)) σ (h ++ J) = .ok (.int (r - s)) (ha ++ J) := aOp_ok (aCall_ok (aCons_ok (h0 _) (aCons_ok e1 rfl)) rfl er) (h2 _) (fSub_i _ _ _)
  have e3 : (aTup (aCons (aOp fSub (aCall 3 m__law_pour (aCons (aVar 0) (aCons (aOp fAdd (aOp fMul (aC (.int 2)) (aVar 2)) (aC (.int 1))) (aCons (aC (.int 5)) (aNil))))) (aVar 2)) (aCons (aC (.int 20)) (aCons (aUn fNeg (aC (.int 20))) (aCons (aC (.int 0)) (aNil)))))) σ (h ++ J) = .ok (.tup [.int (r - s), .int 20, .int (-20), .int 0]) (ha ++ J) := aTup_ok (aCons_ok e2 rfl) (by simp)
  have e4 : (aOp fFdiv (aCall 3 m__law_pour (aCons (aVar 0) (aCons (aC (.int 9)) (aCons (aC (.int 6)) (aNil))))) (aC (.int 6))) σ (ha ++ J) = .ok (.int (q / 6)) (hb ++ J) := aOp_ok (aCall_ok (aCons_ok (h0 _) rfl) rfl eq) rfl (fFdiv_i (by omega) (by omega) _)
  have hq : q / 6 = ((0 : Nat) : Int) ∨ q / 6 = ((1 : Nat) : Int) := by omega
  rcases hq with c | c
  · rw [c] at e4
    exact ⟨_, hb, aOp_ok e3 e4 (fIx_tup (atI_nat rfl)), ma.tr mb, by omega, by omega⟩
  · rw [c] at e4
    exact ⟨_, hb, aOp_ok e3 e4 (fIx_tup (atI_nat rfl)), ma.tr mb, by omega, by omega⟩
section
variable {ns : List Str} {L : List (Str × Nat × Nat)}
theorem worths {h : AH} (t : Tp h) (l20 : L.length ≤ 20) : ∃ (ws : List Int) (h' : AH), m__law_worths [.loc 3, netV ns L] h = .ok (wsV ws) h' ∧ ws.length = L.length ∧ (∀ w ∈ ws, -20 ≤ w ∧ w ≤ 20) ∧ Mv h h' := by
  unfold m__law_worths b__law_worths
  obtain ⟨r, ha, er, r0, r1, ma⟩ := pour t (k := 4) (sp := 4) (by omega) (by omega) (by omega)
  have ta := t.mv ma
  obtain ⟨k, rfl⟩ : ∃ k : Nat, r = k := ⟨r.toNat, by omega⟩
  obtain ⟨s, es, s0, s1⟩ : ∃ s : Int, fIx (.tup [.int 1, .int 2, .int 20, .int 20]) (.int k) ha = .ok (.int s) ha ∧ 1 ≤ s ∧ s ≤ 20 := by
    have hk : k < 4 := by omega
    match k, hk with
    | 0, _ => exact ⟨1, fIx_tup (atI_nat rfl), by omega, by omega⟩
    | 1, _ => exact ⟨2, fIx_tup (atI_nat rfl), by omega, by omega⟩
    | 2, _ => exact ⟨20, fIx_tup (atI_nat rfl), by omega, by omega⟩
    | 3, _ => exact ⟨20, fIx_tup (atI_nat rfl), by omega, by omega⟩
  let S : Option PV → ASt := fun o3 => [some (.loc 3), some (netV ns L), some (.int s), o3]
  have e2 : sSet 2 (aOp fIx (aTup (aCons (aC (.int 1)) (aCons (aC (.int 2)) (aCons (aC (.int 20)) (aCons (aC (.int 20)) (aNil)))))) (aCall 3 m__law_pour (aCons (aVar 0) (aCons (aC (.int 4)) (aCons (aC (.int 4)) (aNil)))))) (startA 4 [.loc 3, netV ns L]) h = .fin .nx (S none) ha := sSet_ok (aOp_ok (x := .tup [.int 1, .int 2, .int 20, .int 20]) (h1 := h) (aTup_ok rfl (by simp)) (aCall_ok rfl rfl er) es)
  obtain ⟨acc, h3, el, ⟨ws, ea, wb, m3⟩, la⟩ := aLc_tapeI (vs := [3]) (g := gN 3) (e := eWd) (σ := S none) (h := ha) (aItS_tup (aOp fIx (aVar 1) (aC (.int 1))) (S none) ha ha (L.map lineV) (aOp_ok rfl rfl (net_1 _ _ _))) (L.map lineV) (fun acc g => ∃ ws : List Int, acc = ws.map .int ∧ (∀ w ∈ ws, -20 ≤ w ∧ w ≤ 20) ∧ Mv h g) (Nat.le_refl _) (by simp; omega) (fun _ _ _ => rfl) ⟨[], rfl, by simp, ma⟩ (fun acc g ⟨_, _, _, m⟩ => by rw [m.len, ma.len]) (fun i x ex acc h2 ⟨ws, ea, wb, m2⟩ la => by
    obtain ⟨w, h', e, m', w0, w1⟩ := worth_one (t.mv m2) [AO.lst acc] s0 s1 (σ := S (some x)) (fun _ => rfl) (fun _ => rfl)
    exact ⟨S (some x), .int w, h', rfl, e, ws ++ [w], by rw [ea]; simp, fun y hy => by
      rcases List.mem_append.mp hy with hy | hy
      · exact wb y hy
      · rw [List.mem_singleton] at hy; subst hy; exact ⟨w0, w1⟩, m2.tr m'⟩)
  subst ea
  refine ⟨ws, h3, (mDef_rt (σ := S none) (h1 := h3 ++ [AO.lst (ws.map .int)]) (v := wsV ws) (sSeq_ok e2 (sRet_ok (aFn_ok (aCons_ok (l := aNil) el rfl) (fnTuple_s (seqOf_loc ?_)))))).trans (finC_mv t m3 (frz_below (low_ints _ _))), by simpa using la, wb, m3⟩
  rw [show ha.length = h3.length by rw [m3.len, ma.len]]
  exact getLast_app _ _
end
end G12

namespace G12
open PySem PySem.Spec
open PyProof.Rows hiding St
open L2 AB MG
variable [Errs]
/-! bent things -/
theorem wS_le {ws : List Int} (b : ∀ w ∈ ws, -20 ≤ w ∧ w ≤ 20) : ∀ ks : List Nat, -(20 * ks.length : Int) ≤ wS ws ks ∧ wS ws ks ≤ 20 * ks.length
  | [] => by simp [wS]
  | k :: ks => by
    have q := wS_le b ks
    have e : wS ws (k :: ks) = wt ws k + wS ws ks := by unfold wS; rw [List.map_cons, List.sum_cons]
    have hk : -20 ≤ wt ws k ∧ wt ws k ≤ 20 := by
      unfold wt
      rw [List.getD_eq_getElem?_getD]
      cases c : ws[k]? with
      | none => simp
      | some w => exact b w (List.mem_of_getElem? c)
    rw [e, List.length_cons]
    omega
def FL (x : PV) : Prop := fl x = true ∧ ∀ k, x.low k = true
def GoodT (v : PV) : Prop := GT v ∧ ∀ k, v.low k = true
theorem fl_int (i : Int) : FL (.int i) := ⟨rfl, fun _ => rfl⟩
theorem low_tup {xs : List PV} {k : Nat} (h : PV.lows k xs = true) : (PV.tup xs).low k = true := h
theorem low_lst {xs : List PV} {k : Nat} (h : PV.lows k xs = true) : (PV.lst xs).low k = true := h
theorem lows_cons {x : PV} {xs : List PV} {k : Nat} (h1 : x.low k = true) (h2 : PV.lows k xs = true) : PV.lows k (x :: xs) = true := by simp [PV.lows, h1, h2]
theorem lows_fl {xs : List PV} (p : ∀ x ∈ xs, FL x) (k : Nat) : PV.lows k xs = true := low_all fun x hx => (p x hx).2 k
theorem gt2 {x y : PV} (hx : FL x) (gy : GY y) (ly : ∀ k, y.low k = true) : GoodT (.tup [x, y]) :=
  ⟨.inl ⟨_, rfl, by simp, fun a b e => by
    rw [List.cons.injEq, List.cons.injEq] at e
    rw [← e.1, ← e.2.1]
    exact ⟨hx.1, gy⟩⟩, fun k => low_tup (lows_cons (hx.2 k) (lows_cons (ly k) rfl))⟩
theorem gy_flat {ys : List PV} (p : ∀ y ∈ ys, FL y) (hz : ys.length ≤ 60) : GY (.tup ys) := .inl ⟨ys, rfl, fun y hy => (p y hy).1, hz⟩
theorem gy_not {y : PV} (h : ∀ h, fnIsi [y, .raw (.ty "tuple")] h = .ok (.bl false) h) : GY y := .inr h
theorem gt_not {y : PV} (h : ∀ h, fnIsi [y, .raw (.ty "tuple")] h = .ok (.bl false) h) (l : ∀ k, y.low k = true) : GoodT y := ⟨.inr h, l⟩
theorem gt_len {xs : List PV} (h : xs.length ≠ 2) (hz : xs.length ≤ 60) (l : ∀ k, PV.lows k xs = true) : GoodT (.tup xs) := ⟨.inl ⟨xs, rfl, hz, fun x y e => absurd (by rw [e]; rfl) h⟩, fun k => low_tup (l k)⟩
theorem cutP_len {α : Type} (xs : List α) (lo hi : Option Int) : (cutP xs lo hi).length ≤ xs.length := by
  unfold cutP
  rw [List.length_take, List.length_drop]; omega
theorem cutP_mem' {α : Type} {xs : List α} {lo hi : Option Int} {x : α} (h : x ∈ cutP xs lo hi) : x ∈ xs := by
  unfold cutP at h
  exact List.mem_of_mem_drop (List.mem_of_mem_take h)
theorem frz_lst2 {k n : Nat} {h : AH} {xs ys : List PV} (hn : k ≤ n) (e : h[n]? = some (.lst xs)) (f : frzWs k h (frzs k h 2) xs = some ys) : frz k h (.loc n) = some (.lst ys) := by
  unfold frz frzW
  rw [if_neg (by omega), e]
  show (frzWs k h (frzs k h 2) xs).map PV.lst = _
  rw [f]; rfl
theorem frzWs_cons {k : Nat} {h : AH} {f : List PV → Option (List PV)} {v v' : PV} {r r' : List PV} (e1 : frzW k h f v = some v') (e2 : frzWs k h f r = some r') : frzWs k h f (v :: r) = some (v' :: r') := by
  unfold frzWs
  rw [e1, e2]
theorem frzW_tup {k : Nat} {h : AH} {f : List PV → Option (List PV)} {xs ys : List PV} (e : frzWs k h f xs = some ys) : frzW k h f (.tup xs) = some (.tup ys) := by
  unfold frzW
  rw [e]; rfl
theorem frzW_loc {k d m : Nat} {h : AH} {zs : List PV} (hm : k ≤ m) (e : h[m]? = some (.lst zs)) (lo : PV.lows k zs = true) : frzW k h (frzs k h d) (.loc m) = some (.lst zs) := by
  unfold frzW
  rw [if_neg (by omega), e]
  show (frzs k h d zs).map PV.lst = _
  rw [frzs_below lo]; rfl
section
variable {W : Int} {ks : List Nat}
abbrev pr (x y : PV) : PV := .tup [x, y]
def ts1 (W : Int) (r : List PV) : List PV := [pr (.int (W + 1)) (.tup r), pr (.int (W - 1)) (.tup r), pr (.int W) (.tup r.reverse), pr (.int W) (.lst r), .lst [.int W, .tup r], pr (.tup r) (.int W), .tup [.int W], .tup ([.int W, .tup r] ++ [.int 0]), .non]
def mid (r : List PV) (a : Int) (odd : PV) : List PV := cutP r none (some a) ++ [odd] ++ cutP r (some (a + 1)) none
def ts2 (W : Int) (r : List PV) (a : Int) (odd : PV) : List PV := (List.replicate (4 : Int).toNat [pr (.int W) (.tup (mid r a odd))]).flatten ++ [pr (.int W) (.tup (cutP r none (some a) ++ cutP r (some (a + 1)) none)), pr (.int W) (.tup (r ++ cutP r none (some 1))), pr (.bl (decide (W = 1))) (.tup r)]
def ts3 (W : Int) (r : List PV) : List PV := [pr (.str (toString W)) (.tup r), pr .non (.tup r), pr (.int W) .non, .tup r, .int W, pr (.bl true) (.tup r), pr (.bl false) (.tup r)]
theorem ts1_good {r : List PV} (p : ∀ x ∈ r, FL x) (hz : r.length ≤ 20) : ∀ v ∈ ts1 W r, GoodT v := fun v hv => by
  have lo : ∀ k, (PV.tup r).low k = true := fun k => low_tup (lows_fl p k)
  unfold ts1 at hv
  simp only [List.mem_cons, List.not_mem_nil, or_false] at hv
  rcases hv with rfl | rfl | rfl | rfl | rfl | rfl | rfl | rfl | rfl
  · exact gt2 (fl_int _) (gy_flat p (by omega)) lo
  · exact gt2 (fl_int _) (gy_flat p (by omega)) lo
  · have p' : ∀ x ∈ r.reverse, FL x := fun x hx => p x (List.mem_reverse.mp hx)
    exact gt2 (fl_int _) (gy_flat p' (by simp; omega)) fun k => low_tup (lows_fl p' k)
  · exact gt2 (fl_int _) (gy_not fun _ => rfl) fun k => low_lst (lows_fl p k)
  · exact gt_not (fun _ => rfl) fun k => low_lst (lows_cons rfl (lows_cons (lo k) rfl))
  · exact gt2 ⟨rfl, lo⟩ (gy_not fun _ => rfl) fun _ => rfl
  · exact gt_len (by simp) (by simp) fun k => rfl
  · exact gt_len (by simp) (by simp) fun k => lows_cons rfl (lows_cons (lo k) rfl)
  · exact gt_not (fun _ => rfl) fun _ => rfl
theorem ts2_good {r : List PV} (p : ∀ x ∈ r, FL x) (hz : r.length ≤ 20) {a : Int} {odd : PV} (ho : FL odd) : ∀ v ∈ ts2 W r a odd, GoodT v := fun v hv => by
  have lo : ∀ k, (PV.tup r).low k = true := fun k => low_tup (lows_fl p k)
  have c1 := cutP_len r none (some a)
  have c2 := cutP_len r (some (a + 1)) none
  have c3 := cutP_len r none (some 1)
  have p1 : ∀ x ∈ cutP r none (some a), FL x := fun x hx => p x (cutP_mem' hx)
  have p2 : ∀ x ∈ cutP r (some (a + 1)) none, FL x := fun x hx => p x (cutP_mem' hx)
  have p3 : ∀ x ∈ cutP r none (some 1), FL x := fun x hx => p x (cutP_mem' hx)
  unfold ts2 at hv
  rcases List.mem_append.mp hv with hv | hv
  · have : v = pr (.int W) (.tup (mid r a odd)) := by simpa using hv
    subst this
    have pm : ∀ x ∈ mid r a odd, FL x := fun x hx => by
      unfold mid at hx
      rcases List.mem_append.mp hx with hx | hx
      · rcases List.mem_append.mp hx with hx | hx
        · exact p1 x hx
        · rw [List.mem_singleton] at hx; subst hx; exact ho
      · exact p2 x hx
    exact gt2 (fl_int _) (gy_flat pm (by unfold mid; simp; omega)) fun k => low_tup (lows_fl pm k)
  · simp only [List.mem_cons, List.not_mem_nil, or_false] at hv
    rcases hv with rfl | rfl | rfl
    · have pm : ∀ x ∈ cutP r none (some a) ++ cutP r (some (a + 1)) none, FL x := fun x hx => by
        rcases List.mem_append.mp hx with hx | hx
        · exact p1 x hx
        · exact p2 x hx
      exact gt2 (fl_int _) (gy_flat pm (by rw [List.length_append]; omega)) fun k => low_tup (lows_fl pm k)
    · have pm : ∀ x ∈ r ++ cutP r none (some 1), FL x := fun x hx => by
        rcases List.mem_append.mp hx with hx | hx
        · exact p x hx
        · exact p3 x hx
      exact gt2 (fl_int _) (gy_flat pm (by rw [List.length_append]; omega)) fun k => low_tup (lows_fl pm k)
    · exact gt2 ⟨rfl, fun _ => rfl⟩ (gy_flat p (by omega)) lo
theorem ts3_good (hz : ks.length ≤ 20) : ∀ v ∈ ts3 W (ks.map nI), GoodT v := fun v hv => by
  have p : ∀ x ∈ ks.map nI, FL x := fun x hx => by obtain ⟨k, _, rfl⟩ := List.mem_map.mp hx; exact fl_int _
  have lo : ∀ k, (PV.tup (ks.map nI)).low k = true := fun k => low_tup (lows_fl p k)
  have gy : GY (.tup (ks.map nI)) := gy_flat p (by simp; omega)
  unfold ts3 at hv
  simp only [List.mem_cons, List.not_mem_nil, or_false] at hv
  rcases hv with rfl | rfl | rfl | rfl | rfl | rfl | rfl
  · exact gt2 ⟨rfl, fun _ => rfl⟩ gy lo
  · exact gt2 ⟨rfl, fun _ => rfl⟩ gy lo
  · exact gt2 (fl_int _) (gy_not fun _ => rfl) fun _ => rfl
  · refine ⟨.inl ⟨_, rfl, by simp; omega, fun x y e => ?_⟩, lo⟩
    have hx : x ∈ ks.map nI := by rw [e]; simp
    have hy : y ∈ ks.map nI := by rw [e]; simp
    obtain ⟨k, _, rfl⟩ := List.mem_map.mp hy
    exact ⟨(p x hx).1, gy_not fun _ => rfl⟩
  · exact gt_not (fun _ => rfl) fun _ => rfl
  · exact gt2 ⟨rfl, fun _ => rfl⟩ gy lo
  · exact gt2 ⟨rfl, fun _ => rfl⟩ gy lo
end
end G12

namespace G12
open PySem PySem.Spec
open PyProof.Rows hiding St
open L2 AB MG
variable [Errs]
theorem fnStr_w {W : Int} (hW : W.natAbs ≤ 1000) (h : AH) : fnStr [.int W] h = .ok (.str (toString W)) h := by
  unfold fnStr
  dsimp only
  rw [if_pos (by have := Nat.log2_le_self W.natAbs; omega)]
theorem fMul_4 {n : Nat} {x : PV} {h : AH} (e : h[n]? = some (.lst [x])) : fMul (.loc n) (.int 4) h = .ok (.loc h.length) (h ++ [.lst (List.replicate (4 : Int).toNat [x]).flatten]) := by
  show (match lstOf (.loc n) h with | some xs => _ | none => _) = _
  rw [lstOf_loc e]
  exact if_pos ⟨by decide, by decide, size_ok (by simp)⟩
noncomputable abbrev sB7a : AS := sSet 7 (aCut (aLst (aCons (aTup (aCons (aOp fAdd (aVar 3) (aC (.int 1))) (aCons (aVar 4) (aNil)))) (aCons (aTup (aCons (aOp fSub (aVar 3) (aC (.int 1))) (aCons (aVar 4) (aNil)))) (aCons (aTup (aCons (aVar 3) (aCons (aUn fRevT (aVar 4)) (aNil)))) (aCons (aTup (aCons (aVar 3) (aCons (aFn fnList (aCons (aVar 4) (aNil))) (aNil)))) (aCons (aLst (aCons (aVar 3) (aCons (aVar 4) (aNil)))) (aCons (aTup (aCons (aVar 4) (aCons (aVar 3) (aNil)))) (aCons (aTup (aCons (aVar 3) (aNil))) (aCons (aOp fAdd (aVar 2) (aTup (aCons (aC (.int 0)) (aNil)))) (aCons (aC .non) (aNil))))))))))))
noncomputable abbrev sB7b : AS := sSet 7 (aCut (aOp fAdd (aOp fAdd (aVar 7) (aOp fMul (aLst (aCons (aTup (aCons (aVar 3) (aCons (aOp fAdd (aOp fAdd (aSl (aVar 4) (aNoP) (aSoP (aVar 5))) (aTup (aCons (aVar 6) (aNil)))) (aSl (aVar 4) (aSoP (aOp fAdd (aVar 5) (aC (.int 1)))) (aNoP))) (aNil)))) (aNil))) (aC (.int 4)))) (aLst (aCons (aTup (aCons (aVar 3) (aCons (aOp fAdd (aSl (aVar 4) (aNoP) (aSoP (aVar 5))) (aSl (aVar 4) (aSoP (aOp fAdd (aVar 5) (aC (.int 1)))) (aNoP))) (aNil)))) (aCons (aTup (aCons (aVar 3) (aCons (aOp fAdd (aVar 4) (aSl (aVar 4) (aNoP) (aSoP (aC (.int 1))))) (aNil)))) (aCons (aTup (aCons (aOp fEq (aVar 3) (aC (.int 1))) (aCons (aVar 4) (aNil)))) (aNil)))))))
noncomputable abbrev sB7c : AS := sSet 7 (aCut (aOp fAdd (aVar 7) (aLst (aCons (aTup (aCons (aFn fnStr (aCons (aVar 3) (aNil))) (aCons (aVar 4) (aNil)))) (aCons (aTup (aCons (aC .non) (aCons (aVar 4) (aNil)))) (aCons (aTup (aCons (aVar 3) (aCons (aC .non) (aNil)))) (aCons (aVar 4) (aCons (aVar 3) (aCons (aTup (aCons (aC (.bl true)) (aCons (aVar 4) (aNil)))) (aCons (aTup (aCons (aC (.bl false)) (aCons (aVar 4) (aNil)))) (aNil)))))))))))
def sgB (N : PV) (W : Int) (r : List PV) (o5 o6 o7 : Option PV) : ASt := [some (.loc 3), some N, some (.tup [.int W, .tup r]), some (.int W), some (.tup r), o5, o6, o7]
theorem gt_low {ts : List PV} (p : ∀ v ∈ ts, GoodT v) (k : Nat) : PV.lows k ts = true := low_all fun x hx => (p x hx).2 k
section
variable {N : PV} {W : Int} {r : List PV} (p : ∀ x ∈ r, FL x) (hz : r.length ≤ 20)
include p hz
theorem bent_a (o5 o6 : Option PV) (h : AH) : sB7a (sgB N W r o5 o6 none) h = .fin .nx (sgB N W r o5 o6 (some (.lst (ts1 W r)))) h := by
  let σ := sgB N W r o5 o6 none
  let h1 : AH := h ++ [AO.lst r]
  have lo : ∀ k, (PV.tup r).low k = true := fun k => low_tup (lows_fl p k)
  have x1 : (aTup (aCons (aOp fAdd (aVar 3) (aC (.int 1))) (aCons (aVar 4) (aNil)))) σ h = .ok (pr (.int (W + 1)) (.tup r)) h := aTup_ok (aCons_ok (aOp_ok rfl rfl (fAdd_i _ _ _)) rfl) (by simp)
  have x2 : (aTup (aCons (aOp fSub (aVar 3) (aC (.int 1))) (aCons (aVar 4) (aNil)))) σ h = .ok (pr (.int (W - 1)) (.tup r)) h := aTup_ok (aCons_ok (aOp_ok rfl rfl (fSub_i _ _ _)) rfl) (by simp)
  have x3 : (aTup (aCons (aVar 3) (aCons (aUn fRevT (aVar 4)) (aNil)))) σ h = .ok (pr (.int W) (.tup r.reverse)) h := aTup_ok (xs := [.int W, .tup r.reverse]) rfl (by simp)
  have x4 : (aTup (aCons (aVar 3) (aCons (aFn fnList (aCons (aVar 4) (aNil))) (aNil)))) σ h = .ok (pr (.int W) (.loc h.length)) h1 := aTup_ok (xs := [.int W, .loc h.length]) (aCons_ok rfl (aCons_ok (aFn_ok rfl (fnList_s (seqOf_tup _ _))) rfl)) (by simp)
  have x5 : (aLst (aCons (aVar 3) (aCons (aVar 4) (aNil)))) σ h1 = .ok (.loc h1.length) (h1 ++ [AO.lst [.int W, .tup r]]) := aLst_ok (xs := [.int W, .tup r]) rfl (by simp)
  let h2 : AH := h1 ++ [AO.lst [.int W, .tup r]]
  have x6 : (aTup (aCons (aVar 4) (aCons (aVar 3) (aNil)))) σ h2 = .ok (pr (.tup r) (.int W)) h2 := aTup_ok (xs := [.tup r, .int W]) rfl (by simp)
  have x7 : (aTup (aCons (aVar 3) (aNil))) σ h2 = .ok (.tup [.int W]) h2 := aTup_ok (xs := [.int W]) rfl (by simp)
  have x8 : (aOp fAdd (aVar 2) (aTup (aCons (aC (.int 0)) (aNil)))) σ h2 = .ok (.tup ([.int W, .tup r] ++ [.int 0])) h2 := aOp_ok (x := .tup [.int W, .tup r]) (y := .tup [.int 0]) rfl (aTup_ok rfl (by simp)) (fAdd_t (by simp))
  have e := aLst_ok (aCons_ok x1 (aCons_ok x2 (aCons_ok x3 (aCons_ok x4 (aCons_ok x5 (aCons_ok x6 (aCons_ok x7 (aCons_ok x8 (aCons_ok (a := aC .non) (l := aNil) rfl rfl))))))))) (by simp)
  refine sSet_ok ((aCut_ok e).trans ?_)
  have eh : ∀ xs, h2 ++ [AO.lst xs] = h ++ (AO.lst r :: AO.lst [.int W, .tup r] :: [AO.lst xs]) := fun xs => by simp [h2, h1]
  have el : h2.length = h.length + 2 := by simp [h2, h1]
  have el1 : h1.length = h.length + 1 := by simp [h1]
  show finC h.length h (h2 ++ [AO.lst _]) (.loc h2.length) = _
  rw [eh, el]
  refine finC_ext (frz_lst2 (by omega) (g2 rfl) ?_)
  refine frzWs_cons (frzW_below _ (low_tup (lows_cons rfl (lows_cons (lo _) rfl)))) ?_
  refine frzWs_cons (frzW_below _ (low_tup (lows_cons rfl (lows_cons (lo _) rfl)))) ?_
  refine frzWs_cons (frzW_below _ (low_tup (lows_cons rfl (lows_cons (low_tup (lows_fl (fun x hx => p x (List.mem_reverse.mp hx)) _)) rfl)))) ?_
  refine frzWs_cons (frzW_tup (frzWs_cons (frzW_below _ rfl) (frzWs_cons (frzW_loc (Nat.le_refl _) (g0 rfl) (lows_fl p _)) rfl))) ?_
  refine frzWs_cons (frzW_loc (by omega) (by rw [el1]; exact g1 rfl) (lows_cons rfl (lows_cons (lo _) rfl))) ?_
  refine frzWs_cons (frzW_below _ (low_tup (lows_cons (lo _) rfl))) ?_
  refine frzWs_cons (frzW_below _ rfl) ?_
  refine frzWs_cons (frzW_below _ (low_tup (lows_cons rfl (lows_cons (lo _) rfl)))) ?_
  rfl
theorem bent_b {a : Nat} {odd : PV} (ho : FL odd) (h : AH) : sB7b (sgB N W r (some (.int a)) (some odd) (some (.lst (ts1 W r)))) h = .fin .nx (sgB N W r (some (.int a)) (some odd) (some (.lst (ts1 W r ++ ts2 W r a odd)))) h := by
  let σ := sgB N W r (some (.int a)) (some odd) (some (.lst (ts1 W r)))
  have c1 := cutP_len r none (some (a : Int))
  have c2 := cutP_len r (some ((a : Int) + 1)) none
  have c3 := cutP_len r none (some 1)
  have s1 : ∀ g, (aSl (aVar 4) (aNoP) (aSoP (aVar 5))) σ g = .ok (.tup (cutP r none (some (a : Int)))) g := fun _ => rfl
  have s2 : ∀ g, (aSl (aVar 4) (aSoP (aOp fAdd (aVar 5) (aC (.int 1)))) (aNoP)) σ g = .ok (.tup (cutP r (some ((a : Int) + 1)) none)) g := fun _ => rfl
  have s3 : ∀ g, (aSl (aVar 4) (aNoP) (aSoP (aC (.int 1)))) σ g = .ok (.tup (cutP r none (some 1))) g := fun _ => rfl
  have s4 : ∀ g, (aTup (aCons (aVar 6) (aNil))) σ g = .ok (.tup [odd]) g := fun _ => aTup_ok (xs := [odd]) rfl (by simp)
  have m1 : ∀ g, (aTup (aCons (aVar 3) (aCons (aOp fAdd (aOp fAdd (aSl (aVar 4) (aNoP) (aSoP (aVar 5))) (aTup (aCons (aVar 6) (aNil)))) (aSl (aVar 4) (aSoP (aOp fAdd (aVar 5) (aC (.int 1)))) (aNoP))) (aNil)))) σ g = .ok (pr (.int W) (.tup (mid r a odd))) g := fun g =>
    aTup_ok (xs := [.int W, .tup (mid r a odd)]) (aCons_ok rfl (aCons_ok (aOp_ok (aOp_ok (s1 g) (s4 g) (fAdd_t (by simp; omega))) (s2 g) (fAdd_t (by simp; omega))) rfl)) (by simp)
  have m2 : ∀ g, (aTup (aCons (aVar 3) (aCons (aOp fAdd (aSl (aVar 4) (aNoP) (aSoP (aVar 5))) (aSl (aVar 4) (aSoP (aOp fAdd (aVar 5) (aC (.int 1)))) (aNoP))) (aNil)))) σ g = .ok (pr (.int W) (.tup (cutP r none (some (a : Int)) ++ cutP r (some ((a : Int) + 1)) none))) g := fun g =>
    aTup_ok (aCons_ok rfl (aCons_ok (aOp_ok (s1 g) (s2 g) (fAdd_t (by omega))) rfl)) (by simp)
  have m3 : ∀ g, (aTup (aCons (aVar 3) (aCons (aOp fAdd (aVar 4) (aSl (aVar 4) (aNoP) (aSoP (aC (.int 1))))) (aNil)))) σ g = .ok (pr (.int W) (.tup (r ++ cutP r none (some 1)))) g := fun g =>
    aTup_ok (aCons_ok rfl (aCons_ok (aOp_ok rfl (s3 g) (fAdd_t (by omega))) rfl)) (by simp)
  have m4 : ∀ g, (aTup (aCons (aOp fEq (aVar 3) (aC (.int 1))) (aCons (aVar 4) (aNil)))) σ g = .ok (pr (.bl (decide (W = 1))) (.tup r)) g := fun g =>
    aTup_ok (aCons_ok (aOp_ok rfl rfl (fEq_i _ _ _)) rfl) (by simp)
  let M : List PV := (List.replicate (4 : Int).toNat [pr (.int W) (.tup (mid r a odd))]).flatten
  let Z : List PV := [pr (.int W) (.tup (cutP r none (some (a : Int)) ++ cutP r (some ((a : Int) + 1)) none)), pr (.int W) (.tup (r ++ cutP r none (some 1))), pr (.bl (decide (W = 1))) (.tup r)]
  let h1 : AH := h ++ [AO.lst [pr (.int W) (.tup (mid r a odd))]]
  let h2 : AH := h1 ++ [AO.lst M]
  let h3 : AH := h2 ++ [AO.lst (ts1 W r ++ M)]
  let h4 : AH := h3 ++ [AO.lst Z]
  have lM : M.length = 4 := rfl
  have e1 : (aOp fMul (aLst (aCons (aTup (aCons (aVar 3) (aCons (aOp fAdd (aOp fAdd (aSl (aVar 4) (aNoP) (aSoP (aVar 5))) (aTup (aCons (aVar 6) (aNil)))) (aSl (aVar 4) (aSoP (aOp fAdd (aVar 5) (aC (.int 1)))) (aNoP))) (aNil)))) (aNil))) (aC (.int 4))) σ h = .ok (.loc h1.length) h2 :=
    aOp_ok (aLst_ok (aCons_ok (m1 h) rfl) (by simp)) rfl (fMul_4 (getLast_app _ _))
  have e2 : (aOp fAdd (aVar 7) (aOp fMul (aLst (aCons (aTup (aCons (aVar 3) (aCons (aOp fAdd (aOp fAdd (aSl (aVar 4) (aNoP) (aSoP (aVar 5))) (aTup (aCons (aVar 6) (aNil)))) (aSl (aVar 4) (aSoP (aOp fAdd (aVar 5) (aC (.int 1)))) (aNoP))) (aNil)))) (aNil))) (aC (.int 4)))) σ h = .ok (.loc h2.length) h3 :=
    aOp_ok rfl e1 (fAdd_liv (.inl rfl) (.inr ⟨_, rfl, getLast_app _ _⟩) (.inr ⟨_, rfl⟩) (by rw [lM]; simp [ts1]))
  have e3 : (aLst (aCons (aTup (aCons (aVar 3) (aCons (aOp fAdd (aSl (aVar 4) (aNoP) (aSoP (aVar 5))) (aSl (aVar 4) (aSoP (aOp fAdd (aVar 5) (aC (.int 1)))) (aNoP))) (aNil)))) (aCons (aTup (aCons (aVar 3) (aCons (aOp fAdd (aVar 4) (aSl (aVar 4) (aNoP) (aSoP (aC (.int 1))))) (aNil)))) (aCons (aTup (aCons (aOp fEq (aVar 3) (aC (.int 1))) (aCons (aVar 4) (aNil)))) (aNil))))) σ h3 = .ok (.loc h3.length) h4 :=
    aLst_ok (xs := Z) (aCons_ok (m2 _) (aCons_ok (m3 _) (aCons_ok (m4 _) rfl))) (by simp [Z])
  have l3 : Liv (.loc h2.length) (ts1 W r ++ M) h4 := Liv.app (h := h3) (.inr ⟨_, rfl, getLast_app _ _⟩) _
  have e4 := aOp_ok (f := fAdd) e2 e3 (fAdd_liv l3 (.inr ⟨_, rfl, getLast_app _ _⟩) (.inl ⟨_, rfl⟩) (by rw [List.length_append, lM]; simp [ts1, Z]))
  refine sSet_ok ((aCut_ok e4).trans ?_)
  have eh : h4 ++ [AO.lst (ts1 W r ++ M ++ Z)] = h ++ ([AO.lst [pr (.int W) (.tup (mid r a odd))]] ++ [AO.lst M] ++ [AO.lst (ts1 W r ++ M)] ++ [AO.lst Z] ++ [AO.lst (ts1 W r ++ M ++ Z)]) := by simp [h4, h3, h2, h1]
  have g1 := ts1_good (W := W) p hz
  have g2 := ts2_good (W := W) p hz (a := a) ho
  have lo : PV.lows h.length (ts1 W r ++ ts2 W r a odd) = true := gt_low (fun v hv => by
    rcases List.mem_append.mp hv with hv | hv
    · exact g1 v hv
    · exact g2 v hv) _
  have ez : ts1 W r ++ M ++ Z = ts1 W r ++ ts2 W r a odd := by rw [List.append_assoc]; rfl
  have fz := frz_new (k := h.length) (n := h4.length) (h := h4 ++ [AO.lst (ts1 W r ++ M ++ Z)]) (by simp [h4, h3, h2, h1]) (getLast_app _ _) (by rw [ez]; exact lo)
  rw [eh] at fz ⊢
  rw [ez] at fz ⊢
  exact finC_ext fz
end
theorem bent_c {N : PV} {W : Int} {ks : List Nat} (hW : W.natAbs ≤ 1000) {o5 o6 : Option PV} {ts : List PV} (lt : ts.length ≤ 100) (gs : ∀ v ∈ ts, GoodT v) (hz : ks.length ≤ 20) (h : AH) : sB7c (sgB N W (ks.map nI) o5 o6 (some (.lst ts))) h = .fin .nx (sgB N W (ks.map nI) o5 o6 (some (.lst (ts ++ ts3 W (ks.map nI))))) h := by
  let r := ks.map nI
  let σ := sgB N W r o5 o6 (some (.lst ts))
  have x1 : (aTup (aCons (aFn fnStr (aCons (aVar 3) (aNil))) (aCons (aVar 4) (aNil)))) σ h = .ok (pr (.str (toString W)) (.tup r)) h := aTup_ok (aCons_ok (aFn_ok rfl (fnStr_w hW h)) rfl) (by simp)
  have x2 : (aTup (aCons (aC .non) (aCons (aVar 4) (aNil)))) σ h = .ok (pr .non (.tup r)) h := aTup_ok (xs := [.non, .tup r]) rfl (by simp)
  have x3 : (aTup (aCons (aVar 3) (aCons (aC .non) (aNil)))) σ h = .ok (pr (.int W) .non) h := aTup_ok (xs := [.int W, .non]) rfl (by simp)
  have x6 : (aTup (aCons (aC (.bl true)) (aCons (aVar 4) (aNil)))) σ h = .ok (pr (.bl true) (.tup r)) h := aTup_ok (xs := [.bl true, .tup r]) rfl (by simp)
  have x7 : (aTup (aCons (aC (.bl false)) (aCons (aVar 4) (aNil)))) σ h = .ok (pr (.bl false) (.tup r)) h := aTup_ok (xs := [.bl false, .tup r]) rfl (by simp)
  have e := aLst_ok (aCons_ok x1 (aCons_ok x2 (aCons_ok x3 (aCons_ok (a := aVar 4) rfl (aCons_ok (a := aVar 3) rfl (aCons_ok x6 (aCons_ok (l := aNil) x7 rfl))))))) (by simp)
  have g3 := ts3_good (W := W) hz
  refine sSet_ok ((aCut_ok (aOp_ok (f := fAdd) (x := .lst ts) rfl e (fAdd_liv (xs := ts) (ys := ts3 W r) (.inl rfl) (.inr ⟨_, rfl, getLast_app _ _⟩) (.inr ⟨_, rfl⟩) (by simp [ts3]; omega)))).trans ?_)
  have fz := frz_new (k := h.length) (n := (h ++ [AO.lst (ts3 W r)]).length) (h := h ++ [AO.lst (ts3 W r)] ++ [AO.lst (ts ++ ts3 W r)]) (by simp) (getLast_app _ _) (gt_low (fun v hv => by
    rcases List.mem_append.mp hv with hv | hv
    · exact gs v hv
    · exact g3 v hv) _)
  show finC h.length h (h ++ [AO.lst (ts3 W r)] ++ [AO.lst (ts ++ ts3 W r)]) (.loc (h ++ [AO.lst (ts3 W r)]).length) = _
  rw [List.append_assoc] at fz ⊢
  exact finC_ext fz
end G12

namespace G12
open PySem PySem.Spec
open PyProof.Rows hiding St
open L2 AB MG
variable [Errs]
section
variable {ns : List Str} {L : List (Str × Nat × Nat)}
theorem bent {h : AH} (t : Tp h) {W : Int} (hW : W.natAbs ≤ 1000) {ks : List Nat} (hz : ks.length ≤ 20) : ∃ (th : PV) (h' : AH), m__law_bent [.loc 3, netV ns L, .tup [.int W, tN ks]] h = .ok th h' ∧ GT th ∧ Mv h h' := by
  unfold m__law_bent b__law_bent
  let r := ks.map nI
  let N := netV ns L
  have p : ∀ x ∈ r, FL x := fun x hx => by obtain ⟨k, _, rfl⟩ := List.mem_map.mp hx; exact fl_int _
  have lr : r.length = ks.length := List.length_map ..
  obtain ⟨a, ha, ea, a0, a1, ma⟩ := pour t (k := (ks.length : Int) + 1) (sp := 8) (by omega) (by omega) (by omega)
  have ta := t.mv ma
  obtain ⟨a, rfl⟩ : ∃ k : Nat, a = k := ⟨a.toNat, by omega⟩
  obtain ⟨q, hb, eq, q0, q1, mb⟩ := pour ta (k := 8) (sp := 8) (by omega) (by omega) (by omega)
  have tb := ta.mv mb
  obtain ⟨q, rfl⟩ : ∃ k : Nat, q = k := ⟨q.toNat, by omega⟩
  let od : List PV := [.int 0, .bl true, .bl false, .int (-1), .int L.length, .non, .str "0", .int 1]
  obtain ⟨odd, eo, fo⟩ : ∃ odd, od[q]? = some odd ∧ FL odd := by
    have hq : q < od.length := by show q < 8; omega
    refine ⟨od[q], List.getElem?_eq_getElem hq, ?_⟩
    have all : ∀ x ∈ od, FL x := fun x hx => by
      simp only [od, List.mem_cons, List.not_mem_nil, or_false] at hx
      rcases hx with rfl | rfl | rfl | rfl | rfl | rfl | rfl | rfl <;> exact ⟨rfl, fun _ => rfl⟩
    exact all _ (List.getElem_mem hq)
  let ts := ts1 W r ++ ts2 W r a odd ++ ts3 W r
  have lts : ts.length = 23 := by simp [ts, ts1, ts2, ts3]
  obtain ⟨c, hc, ec, c0, c1, mc⟩ := pour tb (k := 23) (sp := 8) (by omega) (by omega) (by omega)
  obtain ⟨c, rfl⟩ : ∃ k : Nat, c = k := ⟨c.toNat, by omega⟩
  have hcl : c < ts.length := by omega
  have g1 := ts1_good (W := W) p (by omega)
  have g2 := ts2_good (W := W) p (by omega) (a := a) fo
  have g12 : ∀ v ∈ ts1 W r ++ ts2 W r a odd, GoodT v := fun v hv => by
    rcases List.mem_append.mp hv with hv | hv
    · exact g1 v hv
    · exact g2 v hv
  have g3 := ts3_good (W := W) (ks := ks) hz
  have gall : ∀ v ∈ ts, GoodT v := fun v hv => by
    rcases List.mem_append.mp hv with hv | hv
    · exact g12 v hv
    · exact g3 v hv
  have gth := gall _ (List.getElem_mem hcl)
  have mm := (ma.tr mb).tr mc
  refine ⟨ts[c], hc, ?_, gth.1, mm⟩
  have s0 : sAsg (aVar 2) (gTup' 2 (gCons' (gN 3) (gCons' (gN 4) (gNil')))) (startA 8 [.loc 3, N, .tup [.int W, tN ks]]) h = .fin .nx (sgB N W r none none none) h := sAsg_ok rfl rfl
  have e5 : (aCall 3 m__law_pour (aCons (aVar 0) (aCons (aOp fAdd (aFn fnLen (aCons (aVar 4) (aNil))) (aC (.int 1))) (aCons (aC (.int 8)) (aNil))))) (sgB N W r none none none) h = .ok (.int a) ha :=
    aCall_ok (aCons_ok rfl (aCons_ok (aOp_ok (aFn_ok rfl (lenT lr _)) rfl (fAdd_i _ _ _)) rfl)) rfl ea
  have e6a : (aTup (aCons (aC (.int 0)) (aCons (aC (.bl true)) (aCons (aC (.bl false)) (aCons (aUn fNeg (aC (.int 1))) (aCons (aFn fnLen (aCons (aOp fIx (aVar 1) (aC (.int 1))) (aNil))) (aCons (aC .non) (aCons (aC (.str "0")) (aCons (aC (.int 1)) (aNil)))))))))) (sgB N W r (some (.int a)) none none) ha = .ok (.tup od) ha :=
    aTup_ok (aCons_ok rfl (aCons_ok rfl (aCons_ok rfl (aCons_ok (x := .int (-1)) rfl (aCons_ok (aFn_ok (aCons_ok (l := aNil) (aOp_ok rfl rfl (net_1 ns L _)) rfl) (lenT (n := L.length) (by simp) _)) rfl))))) (by simp [od])
  have e6 : (aOp fIx (aTup (aCons (aC (.int 0)) (aCons (aC (.bl true)) (aCons (aC (.bl false)) (aCons (aUn fNeg (aC (.int 1))) (aCons (aFn fnLen (aCons (aOp fIx (aVar 1) (aC (.int 1))) (aNil))) (aCons (aC .non) (aCons (aC (.str "0")) (aCons (aC (.int 1)) (aNil)))))))))) (aCall 3 m__law_pour (aCons (aVar 0) (aCons (aC (.int 8)) (aCons (aC (.int 8)) (aNil)))))) (sgB N W r (some (.int a)) none none) ha = .ok odd hb :=
    aOp_ok e6a (aCall_ok rfl rfl eq) (fIx_tup (atI_nat eo))
  have e7 : (aOp fIx (aVar 7) (aCall 3 m__law_pour (aCons (aVar 0) (aCons (aFn fnLen (aCons (aVar 7) (aNil))) (aCons (aC (.int 8)) (aNil)))))) (sgB N W r (some (.int a)) (some odd) (some (.lst ts))) hb = .ok ts[c] hc :=
    aOp_ok rfl (aCall_ok (aCons_ok rfl (aCons_ok (aFn_ok rfl (by rw [fnLen_seq (seqOf_lst _ _), lts]; rfl)) rfl)) rfl ec) (fIx_lst (atI_nat (List.getElem?_eq_getElem hcl)))
  refine (mDef_rt (n := 8) (xs := [.loc 3, N, .tup [.int W, tN ks]]) (σ := sgB N W r (some (.int a)) (some odd) (some (.lst ts))) (h1 := hc) (v := ts[c]) ?_).trans (finC_mv0 t mm (gth.2 _))
  refine sSeq_ok s0 (sSeq_ok (σ1 := sgB N W r (some (.int a)) none none) (sSet_ok e5) (sSeq_ok (σ1 := sgB N W r (some (.int a)) (some odd) none) (sSet_ok e6) ?_))
  refine sSeq_ok (bent_a p (by omega) _ _ _) (sSeq_ok (bent_b p (by omega) fo _) (sSeq_ok (bent_c hW (by simp [ts1, ts2]) g12 hz _) (sRet_ok e7)))
end
end G12

namespace G12
open PySem PySem.Spec
open PyProof.Rows hiding St
open L2 AB MG
variable [Errs]
theorem fold_max : ∀ (xs : List Int) (x B : Int), (∀ y ∈ x :: xs, y ≤ B) → B ∈ x :: xs → xs.foldl max x = B
  | [], x, B, h, m => (List.mem_singleton.mp m).symm
  | y :: xs, x, B, h, m => by
    rw [List.foldl_cons]
    have h1 := h x (by simp)
    have h2 := h y (by simp)
    refine fold_max xs (max x y) B (fun z hz => ?_) ?_
    · rcases List.mem_cons.mp hz with rfl | hz
      · omega
      · exact h z (by simp [hz])
    · rcases List.mem_cons.mp m with rfl | m
      · exact List.mem_cons.mpr (.inl (by omega))
      · rcases List.mem_cons.mp m with rfl | m
        · exact List.mem_cons.mpr (.inl (by omega))
        · exact List.mem_cons_of_mem _ m
theorem fnMax_to {v : PV} {ns : List Int} {B : Int} {h : AH} (e : lstOf v h = some (ns.map .int)) (hb : ∀ y ∈ ns, y ≤ B) (m : B ∈ ns) : fnMax [v] h = .ok (.int B) h := by
  cases ns with
  | nil => cases m
  | cons n ns =>
    unfold fnMax
    have hv : ∀ i, v ≠ .int i := fun i q => by subst q; cases e
    split
    · rename_i q; cases q
    · rename_i v' h' q
      cases q
      rw [e, Option.bind_some, intsOf_map]
      dsimp only
      rw [fold_max ns n B hb m]
    · rename_i q1 q2; exact absurd rfl (q2 v)
noncomputable abbrev jgS (m : AE) : AS := (sIf (tNot (aTr (aCall 2 m__law_same (aCons m (aCons (aCall 4 m__law_holds (aCons (aVar 1) (aCons (aVar 2) (aCons (aVar 4) (aCons (aVar 9) (aNil)))))) (aNil)))))) (sRet (aC (.bl false))) (sNext))
section
variable {ns : List Str} {L : List (Str × Nat × Nat)} (N : Net ns L) {ws : List Int} (lw : ws.length = L.length)
include N lw
theorem best_good : GoodT (.tup [.int (bestW L ws), tN (bestK L ws)]) := by
  have T := bestK_tree N (ws := ws)
  have p : ∀ x ∈ (bestK L ws).map nI, FL x := fun x hx => by obtain ⟨k, _, rfl⟩ := List.mem_map.mp hx; exact fl_int _
  have hz := T.len
  have := N.l20
  exact gt2 (fl_int _) (gy_flat p (by simp; omega)) fun k => low_tup (lows_fl p k)
omit lw in
theorem tree_good {T : List Nat} (t : Tree ns.length L T) (W : Int) : GoodT (.tup [.int W, tN T]) := by
  have p : ∀ x ∈ T.map nI, FL x := fun x hx => by obtain ⟨k, _, rfl⟩ := List.mem_map.mp hx; exact fl_int _
  have hz := t.len
  have := N.l20
  exact gt2 (fl_int _) (gy_flat p (by simp; omega)) fun k => low_tup (lows_fl p k)
theorem judged {th : PV} (g : GT th) (h : AH) {σ : ASt} {m : AE} (hm : ∀ b : Bool, m_is_best [netV ns L, wsV ws, th] h = .ok (.bl b) h → m σ h = .ok (.bl b) h) (h1 : aVar 1 σ h = .ok (netV ns L) h) (h2 : aVar 2 σ h = .ok (wsV ws) h) (h4 : aVar 4 σ h = .ok (.int (bestW L ws)) h) (h9 : aVar 9 σ h = .ok th h) :
    jgS m σ h = .fin .nx σ h := by
  obtain ⟨b1, e1, i1⟩ := is_best N lw g h
  obtain ⟨b2, e2, i2⟩ := holds N.lt N.pos N.n10 N.l20 lw (bestW L ws) g h
  have eb : b2 = b1 := by
    cases b1 <;> cases b2
    · rfl
    · have := i1.mpr (i2.mp rfl); cases this
    · have := i2.mpr (i1.mp rfl); cases this
    · rfl
  subst eb
  have es := same (v := .bl b2) rfl (show 1 ≤ 10000 by omega) h
  have ec : (tNot (aTr (aCall 2 m__law_same (aCons m (aCons (aCall 4 m__law_holds (aCons (aVar 1) (aCons (aVar 2) (aCons (aVar 4) (aCons (aVar 9) (aNil)))))) (aNil)))))) σ h = .ok false h :=
    tNot_ok (b := true) (aTr_ok (aCall_ok (aCons_ok (hm _ e1) (aCons_ok (aCall_ok (aCons_ok h1 (aCons_ok h2 (aCons_ok h4 (aCons_ok h9 rfl)))) rfl e2) rfl)) rfl es))
  exact (sIf_f ec).trans rfl
end
end G12

namespace G12
open PySem PySem.Spec
open PyProof.Rows hiding St
open L2 AB MG
variable [Errs]
def sgS (N : PV) (ws : List Int) (TS : List (List Nat)) (W : Int) (o5 o6 o7 o8 o9 o10 : Option PV) : ASt := [some (.loc 3), some N, some (wsV ws), some (.lst (TS.map tN)), some (.int W), o5, o6, o7, o8, o9, o10]
noncomputable abbrev eBestK : AE := aCallK 3 3 0 [2, 1, 0] m_is_best aNil (aCons (aVar 9) (aCons (aVar 2) (aCons (aVar 1) (aNil))))
section
variable {ns : List Str} {L : List (Str × Nat × Nat)} (N : Net ns L) {ws : List Int} (lw : ws.length = L.length) {TS : List (List Nat)} (kt : ∀ T, T ∈ TS ↔ Tree ns.length L T) (lT : TS.length ≤ 256)
include N lw
theorem jd1 {th : PV} (g : GT th) (h : AH) {W : Int} (eW : W = bestW L ws) (o5 o6 o7 o8 o10 : Option PV) : jgS (aCall 3 m_is_best (aCons (aVar 1) (aCons (aVar 2) (aCons (aVar 9) (aNil))))) (sgS (netV ns L) ws TS W o5 o6 o7 o8 (some th) o10) h = .fin .nx (sgS (netV ns L) ws TS W o5 o6 o7 o8 (some th) o10) h := by
  subst eW
  exact judged N lw g h (fun b e => aCall_ok rfl rfl e) rfl rfl rfl rfl
theorem jd2 {th : PV} (g : GT th) (h : AH) {W : Int} (eW : W = bestW L ws) (o5 o6 o7 o8 o10 : Option PV) : jgS eBestK (sgS (netV ns L) ws TS W o5 o6 o7 o8 (some th) o10) h = .fin .nx (sgS (netV ns L) ws TS W o5 o6 o7 o8 (some th) o10) h := by
  subst eW
  exact judged N lw g h (fun b e => aCallK_k (xs := []) rfl rfl rfl rfl e) rfl rfl rfl rfl
include kt lT
theorem small_max (h : AH) : (sSet 4 (aCut (aFn fnMax (aCons (aLc (aItS (aVar 3)) [7] (gN 7) (tYes') (aCall 2 m__law_worth (aCons (aVar 2) (aCons (aVar 7) (aNil))))) (aNil))))) [some (.loc 3), some (netV ns L), some (wsV ws), some (.lst (TS.map tN)), none, none, none, none, none, none, none] h = .fin .nx (sgS (netV ns L) ws TS (bestW L ws) none none none none none none) h := by
  let σ : ASt := [some (.loc 3), some (netV ns L), some (wsV ws), some (.lst (TS.map tN)), none, none, none, none, none, none, none]
  obtain ⟨B, eB, nB, xB⟩ := aItS_lst (aVar 3) σ h h (TS.map tN) rfl
  let F : PV → PV := fun x => match x with | .tup t => .int (wS ws (t.map fun y => match y with | .int k => k.toNat | _ => 0)) | x => x
  have eF : ∀ T, F (tN T) = .int (wS ws T) := fun T => by
    show PV.int (wS ws ((T.map nI).map _)) = _
    rw [List.map_map]
    congr 2
    exact (List.map_congr_left fun k _ => rfl).trans (List.map_id _)
  have el := aLc_map (vs := [7]) (g := gN 7) (t := tYes') (e := (aCall 2 m__law_worth (aCons (aVar 2) (aCons (aVar 7) (aNil))))) eB (TS.map tN) F (Nat.le_of_eq nB.symm) (by simp; omega) (fun i acc _ => xB i _) (fun x hx acc => by
    obtain ⟨T, hT, rfl⟩ := List.mem_map.mp hx
    refine ⟨[some (.loc 3), some (netV ns L), some (wsV ws), some (.lst (TS.map tN)), none, none, none, some (tN T), none, none, none], rfl, rfl, ?_⟩
    rw [eF]
    exact aCall_ok rfl rfl (Tree.worth N.lt N.pos N.n10 N.l20 lw ((kt T).mp hT) _).2)
  have em : (TS.map tN).map F = (TS.map (wS ws)).map .int := by
    rw [List.map_map, List.map_map]
    exact List.map_congr_left fun T _ => eF T
  rw [em] at el
  refine sSet_ok ((aCut_ok (aFn_ok (aCons_ok (l := aNil) el rfl) (fnMax_to (B := bestW L ws) (lstOf_loc (getLast_app _ _)) (fun y hy => ?_) ?_))).trans (finC_ext rfl))
  · obtain ⟨T, hT, rfl⟩ := List.mem_map.mp hy
    exact best_most N ((kt T).mp hT)
  · exact List.mem_map.mpr ⟨bestK L ws, (kt _).mpr (bestK_tree N), rfl⟩
theorem small_best (W : Int) (o5 : Option PV) (h : AH) : (sSet 6 (aCut (aLc (aItS (aVar 3)) [7] (gN 7) (aB (aOp fEq (aCall 2 m__law_worth (aCons (aVar 2) (aCons (aVar 7) (aNil)))) (aVar 4))) (aVar 7)))) (sgS (netV ns L) ws TS W o5 none none none none none) h = .fin .nx (sgS (netV ns L) ws TS W o5 (some (.lst ((TS.filter fun T => decide (wS ws T = W)).map tN))) none none none none) h := by
  let σ := sgS (netV ns L) ws TS W o5 none none none none none
  obtain ⟨B, eB, nB, xB⟩ := aItS_lst (aVar 3) σ h h (TS.map tN) rfl
  let F : PV → Bool := fun x => match x with | .tup t => decide (wS ws (t.map fun y => match y with | .int k => k.toNat | _ => 0) = W) | x => false
  have eF : ∀ T, F (tN T) = decide (wS ws T = W) := fun T => by
    show decide (wS ws ((T.map nI).map _) = W) = _
    rw [List.map_map]
    congr 3
    exact (List.map_congr_left fun k _ => rfl).trans (List.map_id _)
  have el := aLc_filter (vs := [7]) (g := gN 7) (t := (aB (aOp fEq (aCall 2 m__law_worth (aCons (aVar 2) (aCons (aVar 7) (aNil)))) (aVar 4)))) (e := aVar 7) eB (TS.map tN) F (Nat.le_of_eq nB.symm) (by simp; omega) (fun i acc _ => xB i _) (fun x hx acc => by
    obtain ⟨T, hT, rfl⟩ := List.mem_map.mp hx
    refine ⟨sgS (netV ns L) ws TS W o5 none (some (tN T)) none none none, rfl, ?_, rfl⟩
    rw [eF]
    exact aB_ok (aOp_ok (aCall_ok rfl rfl (Tree.worth N.lt N.pos N.n10 N.l20 lw ((kt T).mp hT) _).2) rfl (fEq_i _ _ _)))
  have em : (TS.map tN).filter F = (TS.filter fun T => decide (wS ws T = W)).map tN := by
    rw [List.filter_map]
    congr 2
    funext T
    exact eF T
  rw [em] at el
  exact sSet_ok ((aCut_ok el).trans (finC_ext (frz_new (Nat.le_refl _) (getLast_app _ _) (low_all fun x hx => by obtain ⟨T, _, rfl⟩ := List.mem_map.mp hx; exact low_tupn _ _))))
end
end G12

namespace G12
open PySem PySem.Spec
open PyProof.Rows hiding St
open L2 AB MG
variable [Errs]
theorem same_two (a b : Int) (h : AH) : m__law_same [.tup [.int a, .int b], .tup [.int a, .int b]] h = .ok (.bl true) h := same (v := .tup [.int a, .int b]) rfl (show 5 ≤ 10000 by omega) h
theorem abs_best {ns : List Str} {L : List (Str × Nat × Nat)} (N : Net ns L) {ws : List Int} (wb : ∀ w ∈ ws, -20 ≤ w ∧ w ≤ 20) : (bestW L ws).natAbs ≤ 1000 := by
  have q := wS_le wb (bestK L ws)
  have := (bestK_tree N (ws := ws)).len
  have := N.l20
  unfold bestW
  omega
section
variable {ns : List Str} {L : List (Str × Nat × Nat)} (N : Net ns L)
include N
theorem small (l8 : L.length ≤ 8) (n2 : 2 ≤ ns.length) {h : AH} (t : Tp h) : ∃ h', m__law_small [.loc 3, netV ns L] h = .ok (.bl true) h' ∧ Mv h h' := by
  unfold m__law_small b__law_small
  obtain ⟨ws, ha, ew, lw, wb, ma⟩ := worths (ns := ns) t N.l20
  have ta := t.mv ma
  obtain ⟨TS, et, kt, lT⟩ := trees N l8 n2 ha
  have aW := abs_best N wb
  let W := bestW L ws
  let BK := bestK L ws
  have tBK : Tree ns.length L BK := bestK_tree N
  have s2 : sSet 2 (aCall 2 m__law_worths (aCons (aVar 0) (aCons (aVar 1) (aNil)))) (startA 11 [.loc 3, netV ns L]) h = .fin .nx [some (.loc 3), some (netV ns L), some (wsV ws), none, none, none, none, none, none, none, none] ha := sSet_ok (aCall_ok rfl rfl ew)
  have s3 : sSet 3 (aCall 1 m__law_trees (aCons (aVar 1) (aNil))) [some (.loc 3), some (netV ns L), some (wsV ws), none, none, none, none, none, none, none, none] ha = .fin .nx [some (.loc 3), some (netV ns L), some (wsV ws), some (.lst (TS.map tN)), none, none, none, none, none, none, none] ha := sSet_ok (aCall_ok rfl rfl et)
  have s4 := small_max N lw kt lT ha
  let V5 : PV := .tup [.int W, tN BK]
  obtain ⟨c, hb, ec, c0, c1, mb⟩ := pour ta (k := 2) (sp := 8) (by omega) (by omega) (by omega)
  have tb := ta.mv mb
  have eb := best_tree N lw hb
  have s5 : sSet 5 (aIf (aB (aOp fEq (aCall 3 m__law_pour (aCons (aVar 0) (aCons (aC (.int 2)) (aCons (aC (.int 8)) (aNil))))) (aC (.int 0)))) (aCall 2 m_best_tree (aCons (aVar 1) (aCons (aVar 2) (aNil)))) (aCallK 2 2 0 [1, 0] m_best_tree aNil (aCons (aVar 2) (aCons (aVar 1) (aNil))))) (sgS (netV ns L) ws TS W none none none none none none) ha = .fin .nx (sgS (netV ns L) ws TS W (some V5) none none none none none) hb := by
    have q : (aB (aOp fEq (aCall 3 m__law_pour (aCons (aVar 0) (aCons (aC (.int 2)) (aCons (aC (.int 8)) (aNil))))) (aC (.int 0)))) (sgS (netV ns L) ws TS W none none none none none none) ha = .ok (decide (c = 0)) hb := aB_ok (aOp_ok (aCall_ok rfl rfl ec) rfl (fEq_i _ _ _))
    by_cases d : c = 0
    · rw [decide_eq_true d] at q
      exact sSet_ok ((aIf_t q).trans (aCall_ok rfl rfl eb))
    · rw [decide_eq_false d] at q
      exact sSet_ok ((aIf_f q).trans (aCallK_k (xs := []) rfl rfl rfl rfl eb))
  obtain ⟨b, eh, ih⟩ := holds N.lt N.pos N.n10 N.l20 lw W (best_good N lw).1 hb
  have : b = true := ih.mpr ⟨BK, rfl, tBK, rfl⟩
  subst this
  have s6 : (sIf (tNot (aTr (aCall 4 m__law_holds (aCons (aVar 1) (aCons (aVar 2) (aCons (aVar 4) (aCons (aVar 5) (aNil)))))))) (sRet (aC (.bl false))) (sNext)) (sgS (netV ns L) ws TS W (some V5) none none none none none) hb = .fin .nx (sgS (netV ns L) ws TS W (some V5) none none none none none) hb := (sIf_f (tNot_ok (b := true) (aTr_ok (aCall_ok rfl rfl eh)))).trans rfl
  have s7 := small_best N lw kt lT W (some V5) hb
  let BS := TS.filter fun T => decide (wS ws T = W)
  have bm : ∀ T, T ∈ BS ↔ T ∈ TS ∧ wS ws T = W := fun T => by
    show T ∈ TS.filter _ ↔ _
    rw [List.mem_filter, decide_eq_true_iff]
  have inB : BK ∈ BS := (bm _).mpr ⟨(kt _).mpr tBK, rfl⟩
  have lB0 : 0 < BS.length := List.length_pos_of_mem inB
  have lT0 : 0 < TS.length := List.length_pos_of_mem ((kt _).mpr tBK)
  have lB : BS.length ≤ 256 := Nat.le_trans (List.length_filter_le _ _) lT
  obtain ⟨x, hc, ex, x0, x1, mc⟩ := pour tb (k := BS.length) (sp := 8) (by omega) (by omega) (by omega)
  have tc := tb.mv mc
  obtain ⟨y, hd, ey, y0, y1, md⟩ := pour tc (k := TS.length) (sp := 8) (by omega) (by omega) (by omega)
  have td := tc.mv md
  obtain ⟨x, rfl⟩ : ∃ k : Nat, x = k := ⟨x.toNat, by omega⟩
  obtain ⟨y, rfl⟩ : ∃ k : Nat, y = k := ⟨y.toNat, by omega⟩
  have xl : x < BS.length := by omega
  have yl : y < TS.length := by omega
  let T := BS[x]
  let O := TS[y]
  have tT : Tree ns.length L T := (kt _).mp ((bm _).mp (List.getElem_mem xl)).1
  have wT : wS ws T = W := ((bm _).mp (List.getElem_mem xl)).2
  have tO : Tree ns.length L O := (kt _).mp (List.getElem_mem yl)
  let VB : PV := .lst (BS.map tN)
  have s8 : sPar 7 8 (aCons (aOp fIx (aVar 6) (aCall 3 m__law_pour (aCons (aVar 0) (aCons (aFn fnLen (aCons (aVar 6) (aNil))) (aCons (aC (.int 8)) (aNil)))))) (aCons (aOp fIx (aVar 3) (aCall 3 m__law_pour (aCons (aVar 0) (aCons (aFn fnLen (aCons (aVar 3) (aNil))) (aCons (aC (.int 8)) (aNil)))))) (aNil))) (sgS (netV ns L) ws TS W (some V5) (some VB) none none none none) hb = .fin .nx (sgS (netV ns L) ws TS W (some V5) (some VB) (some (tN T)) (some (tN O)) none none) hd := by
    refine sPar_ok (aCons_ok (h1 := hc) (aOp_ok (x := VB) rfl (aCall_ok (aCons_ok rfl (aCons_ok (aFn_ok rfl (by rw [fnLen_seq (seqOf_lst _ _), List.length_map])) rfl)) rfl ex) (fIx_lst (atI_nat ?_))) (aCons_ok (aOp_ok (x := .lst (TS.map tN)) rfl (aCall_ok (aCons_ok rfl (aCons_ok (aFn_ok rfl (by rw [fnLen_seq (seqOf_lst _ _), List.length_map])) rfl)) rfl ey) (fIx_lst (atI_nat ?_))) rfl))
    · rw [List.getElem?_map, List.getElem?_eq_getElem xl]; rfl
    · rw [List.getElem?_map, List.getElem?_eq_getElem yl]; rfl
  let S := fun o9 o10 => sgS (netV ns L) ws TS W (some V5) (some VB) (some (tN T)) (some (tN O)) o9 o10
  -- three things
  have eO := Tree.worth N.lt N.pos N.n10 N.l20 lw tO
  have eT := Tree.worth N.lt N.pos N.n10 N.l20 lw tT
  let things : List PV := [.tup [.int W, tN T], .tup [.int (wS ws O), tN O], .tup [.int W, tN O]]
  have gth : ∀ v ∈ things, GT v := fun v hv => by
    simp only [things, List.mem_cons, List.not_mem_nil, or_false] at hv
    rcases hv with rfl | rfl | rfl
    · exact (tree_good N tT _).1
    · exact (tree_good N tO _).1
    · exact (tree_good N tO _).1
  have e9 : aItS (aTup (aCons (aTup (aCons (aVar 4) (aCons (aVar 7) (aNil)))) (aCons (aTup (aCons (aCall 2 m__law_worth (aCons (aVar 2) (aCons (aVar 8) (aNil)))) (aCons (aVar 8) (aNil)))) (aCons (aTup (aCons (aVar 4) (aCons (aVar 8) (aNil)))) (aNil))))) (S none none) hd = .ok (itVals things) hd :=
    aItS_tup _ _ _ _ _ (aTup_ok (aCons_ok (aTup_ok (xs := [.int W, tN T]) rfl (by simp)) (aCons_ok (aTup_ok (aCons_ok (aCall_ok rfl rfl (eO hd).2) rfl) (by simp)) (aCons_ok (aTup_ok (xs := [.int W, tN O]) rfl (by simp)) rfl))) (by simp [things]))
  obtain ⟨σ9, eF9, o9, rfl⟩ := for_at (a := itVals things) (g := gN 9) (b := jgS (aCall 3 m_is_best (aCons (aVar 1) (aCons (aVar 2) (aCons (aVar 9) (aNil)))))) things hd (fun i σ => ∃ o9, σ = S o9 none) rfl (fun _ => rfl) (σ := S none none) ⟨none, rfl⟩ (fun i x σ ex ⟨o9, e1⟩ => by
    subst e1
    exact ⟨S (some x) none, S (some x) none, rfl, jd1 N lw (gth x (List.mem_of_getElem? ex)) hd rfl _ _ _ _ _, _, rfl⟩)
  -- bent ones
  obtain ⟨σ10, G, eF10, p9, o10, rfl, m10⟩ := for_rg (g := gN 10) (b := (sSeq (sSet 9 (aCall 3 m__law_bent (aCons (aVar 0) (aCons (aVar 1) (aCons (aTup (aCons (aVar 4) (aCons (aVar 7) (aNil)))) (aNil)))))) (jgS eBestK))) 0 4
    (fun i σ g => ∃ o9 o10, σ = S o9 o10 ∧ Mv hd g) (σ := S o9 none) (h := hd) ⟨o9, none, rfl, td.rf⟩ (fun i σ g hi ⟨o9, o10, e1, mg⟩ => by
    subst e1
    have lTl : T.length ≤ 20 := by have := tT.len; have := N.l20; omega
    obtain ⟨th, h', eb, gt, m'⟩ := bent (ns := ns) (L := L) (td.mv mg) aW lTl
    refine ⟨S o9 (some (.int (0 + (i : Nat)))), g, S (some th) (some (.int (0 + (i : Nat)))), h', rfl, sSeq_ok (sSet_ok (aCall_ok (aCons_ok rfl (aCons_ok rfl (aCons_ok (aTup_ok (xs := [.int W, tN T]) rfl (by simp)) rfl))) rfl eb)) (jd2 N lw gt h' rfl _ _ _ _ _), _, _, rfl, mg.tr m'⟩)
  have mm := (((ma.tr mb).tr mc).tr md).tr m10
  refine ⟨G, ?_, mm⟩
  refine (mDef_rt (n := 11) (xs := [.loc 3, netV ns L]) (σ := S p9 o10) (h1 := G) (v := .bl true) ?_).trans (finC_mv0 t mm rfl)
  refine sSeq_ok s2 (sSeq_ok s3 (sSeq_ok s4 (sSeq_ok s5 (sSeq_ok s6 (sSeq_ok s7 (sSeq_ok s8 (sSeq_ok (sFor_ok e9 eF9) ?_)))))))
  refine sSeq_ok (sFor_ok (aItR1_ok (j := 4) rfl (by omega) (by omega)) eF10) ?_
  have x1 : (aTup (aCons (aCall 2 m_worth_of (aCons (aVar 2) (aCons (aVar 8) (aNil)))) (aCons (aCallK 2 2 0 [1, 0] m_worth_of aNil (aCons (aVar 7) (aCons (aVar 2) (aNil)))) (aNil)))) (S p9 o10) G = .ok (.tup [.int (wS ws O), .int W]) G :=
    aTup_ok (aCons_ok (aCall_ok rfl rfl (eO G).1) (aCons_ok (aCallK_k (xs := []) rfl rfl rfl rfl (by rw [← wT]; exact (eT G).1)) rfl)) (by simp)
  have x2 : (aTup (aCons (aCall 2 m__law_worth (aCons (aVar 2) (aCons (aVar 8) (aNil)))) (aCons (aVar 4) (aNil)))) (S p9 o10) G = .ok (.tup [.int (wS ws O), .int W]) G :=
    aTup_ok (aCons_ok (aCall_ok rfl rfl (eO G).2) rfl) (by simp)
  exact sRet_ok (aCall_ok (aCons_ok x1 (aCons_ok x2 rfl)) rfl (same_two _ _ _))
/-! the wide net -/
theorem wide {h : AH} (t : Tp h) : ∃ h', m__law_wide [.loc 3, netV ns L] h = .ok (.bl true) h' ∧ Mv h h' := by
  unfold m__law_wide b__law_wide
  obtain ⟨ws, ha, ew, lw, wb, ma⟩ := worths (ns := ns) t N.l20
  have ta := t.mv ma
  have aW := abs_best N wb
  let W := bestW L ws
  let BK := bestK L ws
  have tBK : Tree ns.length L BK := bestK_tree N
  let S : Option PV → Option PV → Option PV → Option PV → ASt := fun o2 o3 o4 o5 => [some (.loc 3), some (netV ns L), o2, o3, o4, o5]
  have e2 : sSet 2 (aCall 2 m__law_worths (aCons (aVar 0) (aCons (aVar 1) (aNil)))) (S none none none none) h = .fin .nx (S (some (wsV ws)) none none none) ha := sSet_ok (aCall_ok rfl rfl ew)
  have e3 : sSet 3 (aCall 2 m__law_greedy (aCons (aVar 1) (aCons (aVar 2) (aNil)))) (S (some (wsV ws)) none none none) ha = .fin .nx (S (some (wsV ws)) (some (tN BK)) none none) ha := sSet_ok (aCall_ok rfl rfl (greedy N.lt N.n10 N.l20 lw ha))
  have e4 : sSet 4 (aCall 2 m__law_worth (aCons (aVar 2) (aCons (aVar 3) (aNil)))) (S (some (wsV ws)) (some (tN BK)) none none) ha = .fin .nx (S (some (wsV ws)) (some (tN BK)) (some (.int W)) none) ha := sSet_ok (aCall_ok rfl rfl (Tree.worth N.lt N.pos N.n10 N.l20 lw tBK ha).2)
  let σ4 := S (some (wsV ws)) (some (tN BK)) (some (.int W)) none
  have gb := best_good N lw
  obtain ⟨b, eh, ih⟩ := holds N.lt N.pos N.n10 N.l20 lw W gb.1 ha
  have : b = true := ih.mpr ⟨BK, rfl, tBK, rfl⟩
  subst this
  obtain ⟨b, ei, ii⟩ := is_best N lw gb.1 ha
  have : b = true := ii.mpr ⟨BK, rfl, tBK, rfl⟩
  subst this
  have c1 : (tNot (aTr (aCall 4 m__law_holds (aCons (aVar 1) (aCons (aVar 2) (aCons (aVar 4) (aCons (aCall 2 m_best_tree (aCons (aVar 1) (aCons (aVar 2) (aNil)))) (aNil)))))))) σ4 ha = .ok false ha :=
    tNot_ok (b := true) (aTr_ok (aCall_ok (aCons_ok rfl (aCons_ok rfl (aCons_ok rfl (aCons_ok (aCall_ok rfl rfl (best_tree N lw ha)) rfl)))) rfl eh))
  have c2 : (aB (aOp fNotB (aCall 3 m_is_best (aCons (aVar 1) (aCons (aVar 2) (aCons (aTup (aCons (aVar 4) (aCons (aVar 3) (aNil)))) (aNil))))) (aC (.bl true)))) σ4 ha = .ok false ha :=
    aB_ok (aOp_ok (aCall_ok (aCons_ok rfl (aCons_ok rfl (aCons_ok (aTup_ok (xs := [.int W, tN BK]) rfl (by simp)) rfl))) rfl ei) rfl rfl)
  have e5 : (sIf (tOr (tNot (aTr (aCall 4 m__law_holds (aCons (aVar 1) (aCons (aVar 2) (aCons (aVar 4) (aCons (aCall 2 m_best_tree (aCons (aVar 1) (aCons (aVar 2) (aNil)))) (aNil)))))))) (aB (aOp fNotB (aCall 3 m_is_best (aCons (aVar 1) (aCons (aVar 2) (aCons (aTup (aCons (aVar 4) (aCons (aVar 3) (aNil)))) (aNil))))) (aC (.bl true))))) (sRet (aC (.bl false))) (sNext)) σ4 ha = .fin .nx σ4 ha := (sIf_f ((tOr_f c1).trans c2)).trans rfl
  obtain ⟨th, hb, eb, gt, mb⟩ := bent (ns := ns) (L := L) ta aW (ks := BK) (by have := tBK.len; have := N.l20; omega)
  have e6 : sSet 5 (aCall 3 m__law_bent (aCons (aVar 0) (aCons (aVar 1) (aCons (aTup (aCons (aVar 4) (aCons (aVar 3) (aNil)))) (aNil))))) σ4 ha = .fin .nx (S (some (wsV ws)) (some (tN BK)) (some (.int W)) (some th)) hb := sSet_ok (aCall_ok (aCons_ok rfl (aCons_ok rfl (aCons_ok (aTup_ok (xs := [.int W, tN BK]) rfl (by simp)) rfl))) rfl eb)
  obtain ⟨b1, f1, i1⟩ := is_best N lw gt hb
  obtain ⟨b2, f2, i2⟩ := holds N.lt N.pos N.n10 N.l20 lw W gt hb
  have eb : b2 = b1 := by
    cases b1 <;> cases b2
    · rfl
    · have := i1.mpr (i2.mp rfl); cases this
    · have := i2.mpr (i1.mp rfl); cases this
    · rfl
  subst eb
  have es := same (v := .bl b2) rfl (show 1 ≤ 10000 by omega) hb
  have mm := ma.tr mb
  refine ⟨hb, (mDef_rt (n := 6) (xs := [.loc 3, netV ns L]) (σ := S (some (wsV ws)) (some (tN BK)) (some (.int W)) (some th)) (h1 := hb) (v := .bl true) ?_).trans (finC_mv0 t mm rfl), mm⟩
  refine sSeq_ok e2 (sSeq_ok e3 (sSeq_ok e4 (sSeq_ok e5 (sSeq_ok e6 (sRet_ok ?_)))))
  exact aCall_ok (aCons_ok (aCall_ok rfl rfl f1) (aCons_ok (aCall_ok rfl rfl f2) rfl)) rfl es
end
end G12

namespace AB
open PySem PySem.Spec
open PyProof.Rows hiding St
open L2
/-! sorting that the kernel can do -/
def insI (x : Nat) : List Nat → List Nat
  | [] => [x]
  | y :: r => if x ≤ y then x :: y :: r else y :: insI x r
def srtI : List Nat → List Nat
  | [] => []
  | x :: r => insI x (srtI r)
theorem insI_perm (x : Nat) : ∀ r : List Nat, (insI x r).Perm (x :: r)
  | [] => List.Perm.refl _
  | y :: r => by
    unfold insI
    split
    · exact List.Perm.refl _
    · exact ((insI_perm x r).cons y).trans (List.Perm.swap x y r)
theorem srtI_perm : ∀ r : List Nat, (srtI r).Perm r
  | [] => List.Perm.refl _
  | x :: r => (insI_perm x _).trans ((srtI_perm r).cons x)
theorem insI_le (x : Nat) : ∀ r : List Nat, r.Pairwise (· ≤ ·) → (insI x r).Pairwise (· ≤ ·)
  | [], _ => by simp [insI]
  | y :: r, h => by
    obtain ⟨h1, h2⟩ := List.pairwise_cons.mp h
    unfold insI
    split
    · rename_i c
      refine List.pairwise_cons.mpr ⟨fun z hz => ?_, h⟩
      rcases List.mem_cons.mp hz with rfl | hz
      · exact c
      · have := h1 z hz; omega
    · rename_i c
      refine List.pairwise_cons.mpr ⟨fun z hz => ?_, insI_le x r h2⟩
      rcases List.mem_cons.mp ((insI_perm x r).mem_iff.mp hz) with rfl | hz
      · omega
      · exact h1 z hz
theorem srtI_le : ∀ r : List Nat, (srtI r).Pairwise (· ≤ ·)
  | [] => by simp [srtI]
  | x :: r => insI_le x _ (srtI_le r)
theorem srtN_I (ks : List Nat) : srtN ks = srtI ks := srtN_of (srtI_perm ks) (srtI_le ks)
theorem flat_congr {α β : Type} {f g : α → List β} : ∀ {xs : List α}, (∀ x ∈ xs, f x = g x) → xs.flatMap f = xs.flatMap g
  | [], _ => rfl
  | x :: xs, h => by
    rw [List.flatMap_cons, List.flatMap_cons, h x (by simp), flat_congr fun y hy => h y (by simp [hy])]
theorem find_map {α β γ : Type} (f : α → Option β) (g : β → γ) : ∀ xs : List α, (xs.findSome? fun x => (f x).map g) = (xs.findSome? f).map g
  | [] => rfl
  | x :: xs => by
    rw [List.findSome?_cons, List.findSome?_cons, find_map f g xs]
    cases f x <;> rfl
end AB

namespace G12
open PySem PySem.Spec
open PyProof.Rows hiding St
open L2 AB MG
variable [Errs]
def jnC (n : Nat) (L : List (Str × Nat × Nat)) (js : List Nat) (a b : Nat) : Bool := decide ((homesF n (js.map (edg L))).getD a 0 = (homesF n (js.map (edg L))).getD b 0)
section
variable {n : Nat} {L : List (Str × Nat × Nat)} (lt : LtN n L) (pos : 0 < n)
include lt pos
theorem edg_all (k : Nat) : (edg L k).1 < n ∧ (edg L k).2 < n := by
  by_cases c : k < L.length
  · exact edg_lt lt c
  · unfold edg
    rw [List.getD_eq_getElem?_getD, List.getElem?_eq_none (by omega)]
    exact ⟨pos, pos⟩
theorem jn_C (js : List Nat) {a b : Nat} (ha : a < n) (hb : b < n) : Jn (edg L) js a b ↔ jnC n L js a b = true := by
  unfold jnC
  rw [decide_eq_true_iff]
  exact Cn_homes (fun e he => by
    obtain ⟨k, _, rfl⟩ := List.mem_map.mp he
    exact edg_all lt pos k) ha hb
def grC (n : Nat) (L : List (Str × Nat × Nat)) : List Nat → List Nat → List Nat
  | T, [] => T
  | T, k :: r => if jnC n L T (edg L k).1 (edg L k).2 = true then grC n L T r else grC n L (T ++ [k]) r
theorem gr_C : ∀ (js T : List Nat), gr (edg L) T js = grC n L T js
  | [], T => rfl
  | k :: r, T => by
    obtain ⟨h1, h2⟩ := edg_all lt pos k
    have q := jn_C lt pos T h1 h2
    unfold grC
    by_cases c : Jn (edg L) T (edg L k).1 (edg L k).2
    · rw [gr_pos c, if_pos (q.mp c), gr_C r T]
    · rw [gr_neg c, if_neg fun x => c (q.mpr x), gr_C r (T ++ [k])]
end
def sqN : List Str := ["a", "b", "c", "d"]
def sqL : List (Str × Nat × Nat) := [("l0", 0, 1), ("l1", 1, 2), ("l2", 2, 3), ("l3", 0, 3), ("l4", 0, 2)]
theorem sqNet : Net sqN sqL := ⟨by decide, by decide, fun p hp => by
    have hp' : p < 4 := hp
    exact (Cn_homes (n := 4) (by decide) (by omega) hp').mpr (by
      have : p = 0 ∨ p = 1 ∨ p = 2 ∨ p = 3 := by omega
      rcases this with rfl | rfl | rfl | rfl <;> decide), by decide, by decide⟩
theorem sq_jn {js : List Nat} {a b : Nat} (ha : a < 4) (hb : b < 4) : Jn (edg sqL) js a b ↔ jnC 4 sqL js a b = true := jn_C (n := 4) sqNet.lt (by decide) js ha hb
theorem sqTree {ks : List Nat} (h1 : ∀ k ∈ ks, k < sqL.length) (h2 : ks.Pairwise (· ≤ ·)) (h3 : ks.Nodup) (h4 : ∀ k ∈ ks, jnC 4 sqL (wo ks k) (edg sqL k).1 (edg sqL k).2 = false) (h5 : ∀ a, a < 4 → ∀ b, b < 4 → jnC 4 sqL ks a b = true) : Tree sqN.length sqL ks := ⟨h1, h2, h3, fun k hk c => by
    obtain ⟨x, y⟩ := edg_all (n := 4) sqNet.lt (by decide) k
    have := (sq_jn x y).mp c
    rw [h4 k hk] at this
    exact Bool.noConfusion this, fun a b ha hb => (sq_jn ha hb).mpr (h5 a ha b hb)⟩
theorem sqA : Tree sqN.length sqL [0, 1, 2] := sqTree (by decide) (by decide) (by decide) (by decide) (by decide)
theorem sqNo : ¬ Tree sqN.length sqL [0, 1, 4] := fun T => by
  have := T.fst 0 (by simp)
  exact this ((sq_jn (by decide) (by decide)).mpr (by decide))
theorem sqOrd : ([1, 3, 4, 0, 2] : List Nat) = ordW [1, 5, 1, 5, 2] 5 := ordW_of (by decide) (by decide)
theorem sqK : bestK sqL [1, 5, 1, 5, 2] = [1, 3, 4] := by
  unfold bestK
  rw [show sqL.length = 5 from rfl, ← sqOrd, gr_C (n := 4) sqNet.lt (by decide), srtN_I]
  decide +kernel
theorem sqW : bestW sqL [1, 5, 1, 5, 2] = 12 := by
  unfold bestW
  rw [sqK]; rfl
/-! all lines alike -/
def lo5 (w : Int) : List Int := [w, w, w, w, w]
theorem lo5_wt (w : Int) {k : Nat} (hk : k < 5) : wt (lo5 w) k = w := by
  have : k = 0 ∨ k = 1 ∨ k = 2 ∨ k = 3 ∨ k = 4 := by omega
  rcases this with rfl | rfl | rfl | rfl | rfl <;> rfl
theorem lo5_sum (w : Int) : ∀ {ks : List Nat}, (∀ k ∈ ks, k < 5) → wS (lo5 w) ks = ks.length * w
  | [], _ => by simp [wS]
  | k :: ks, h => by
    have q := lo5_sum w (ks := ks) fun j hj => h j (by simp [hj])
    have e : wS (lo5 w) (k :: ks) = wt (lo5 w) k + wS (lo5 w) ks := by unfold wS; rw [List.map_cons, List.sum_cons]
    rw [e, q, lo5_wt w (h k (by simp)), List.length_cons, Int.natCast_add, Int.add_mul]
    omega
theorem lo5_tree (w : Int) {ks : List Nat} (T : Tree sqN.length sqL ks) : wS (lo5 w) ks = 3 * w := by
  have l := tree_len sqNet T
  have : sqN.length = 4 := rfl
  rw [lo5_sum w T.lt, show ks.length = 3 by omega]; rfl
theorem lo5_best (w : Int) : bestW sqL (lo5 w) = 3 * w := lo5_tree w (bestK_tree sqNet)
/-! nets apart -/
def apN : List Str := ["p", "q", "r"]
def apL : List (Str × Nat × Nat) := [("k", 0, 1), ("l", 1, 0)]
def apM : List Str := ["p", "q", "r", "s"]
def apK : List (Str × Nat × Nat) := [("k", 2, 1), ("l", 0, 3)]
structure Apt (ns : List Str) (L : List (Str × Nat × Nat)) : Prop where
  lt : LtN ns.length L
  pos : 0 < ns.length
  n10 : ns.length ≤ 10
  l20 : L.length ≤ 20
  no : ¬ ∀ p, p < ns.length → Jn (edg L) (List.range L.length) 0 p
theorem apt_1 {r : Nat} (hr : r < 3) : Apt apN (apL.take r) := by
  have : r = 0 ∨ r = 1 ∨ r = 2 := by omega
  rcases this with rfl | rfl | rfl
  · have lt : LtN apN.length (apL.take 0) := by unfold LtN; decide
    exact ⟨lt, by decide, by decide, by decide, fun a => absurd ((jn_C (n := 3) lt (by decide) _ (by decide) (by decide)).mp (a 2 (by decide))) (by decide)⟩
  · have lt : LtN apN.length (apL.take 1) := by unfold LtN; decide
    exact ⟨lt, by decide, by decide, by decide, fun a => absurd ((jn_C (n := 3) lt (by decide) _ (by decide) (by decide)).mp (a 2 (by decide))) (by decide)⟩
  · have lt : LtN apN.length (apL.take 2) := by unfold LtN; decide
    exact ⟨lt, by decide, by decide, by decide, fun a => absurd ((jn_C (n := 3) lt (by decide) _ (by decide) (by decide)).mp (a 2 (by decide))) (by decide)⟩
theorem apt_2 : Apt apM apK := by
  have lt : LtN apM.length apK := by unfold LtN; decide
  exact ⟨lt, by decide, by decide, by decide, fun a => absurd ((jn_C (n := 4) lt (by decide) _ (by decide) (by decide)).mp (a 1 (by decide))) (by decide)⟩
section
variable {ns : List Str} {L : List (Str × Nat × Nat)} (A : Apt ns L)
include A
theorem best_apart (v : PV) (h : AH) : m_best_tree [netV ns L, v] h = .exc Errs.BadStep Ap h := by
  unfold m_best_tree b_best_tree
  have e := (need A.lt A.pos A.n10 A.l20 h).2 A.no
  let σ : ASt := [some (netV ns L), some v, none]
  have e0 : (aCall 1 m_need_together (aCons (aVar 0) (aNil))) σ h = m_need_together [netV ns L] h := aCall_ok (xs := [netV ns L]) (h1 := h) rfl rfl rfl
  rw [e] at e0
  exact mDef_exc (n := 3) (xs := [netV ns L, v]) (σ := σ) (sSeq_exc (sExpr_exc e0))
omit A in
theorem aOp_exc {f : F2} {a b : AE} {σ : ASt} {h h1 : AH} {c : Addr} {fs : List (Str × PV)} (e : a σ h = .exc c fs h1) : aOp f a b σ h = .exc c fs h1 := by unfold aOp; rw [e]; rfl
theorem is_apart (v w : PV) (h : AH) : m_is_best [netV ns L, v, w] h = .exc Errs.BadStep Ap h := by
  unfold m_is_best b_is_best
  let σ : ASt := [some (netV ns L), some v, some w, none]
  have e0 : (aCall 2 m_best_tree (aCons (aVar 0) (aCons (aVar 1) (aNil)))) σ h = m_best_tree [netV ns L, v] h := aCall_ok (xs := [netV ns L, v]) (h1 := h) rfl rfl rfl
  rw [best_apart A v h] at e0
  exact mDef_exc (n := 4) (xs := [netV ns L, v, w]) (σ := σ) (sSeq_exc (sSet_exc (aOp_exc e0)))
end
noncomputable abbrev sAp3 : AS := sTry 3 [Errs.BadStep] (sIf (aB (aOp fEq (aVar 1) (aC (.int 0)))) (sExpr (aCall 2 m_best_tree (aCons (aVar 2) (aCons (aOp fMul (aTup (aCons (aC (.int 3)) (aNil))) (aFn fnLen (aCons (aOp fIx (aVar 2) (aC (.int 1))) (aNil)))) (aNil))))) (sExpr (aCall 3 m_is_best (aCons (aVar 2) (aCons (aOp fMul (aTup (aCons (aC (.int 3)) (aNil))) (aFn fnLen (aCons (aOp fIx (aVar 2) (aC (.int 1))) (aNil)))) (aCons (aTup (aCons (aC (.int 0)) (aCons (aTup (aNil)) (aNil)))) (aNil))))))) (fun c fs => aIf (tXi c [(Errs.BadStep, true)]) (aXf fs "word") (aC (.str "another")))
theorem ap_try {ns : List Str} {L : List (Str × Nat × Nat)} (A : Apt ns L) (w : Int) (h : AH) : sAp3 [some (.loc 3), some (.int w), some (netV ns L), none] h = .fin (.rt (.str "apart")) [some (.loc 3), some (.int w), some (netV ns L), none] h := by
  let σ : ASt := [some (.loc 3), some (.int w), some (netV ns L), none]
  have l20 := A.l20
  have e3 : (aOp fMul (aTup (aCons (aC (.int 3)) (aNil))) (aFn fnLen (aCons (aOp fIx (aVar 2) (aC (.int 1))) (aNil)))) σ h = .ok (.tup (List.replicate (L.length : Int).toNat [.int 3]).flatten) h := by
    refine aOp_ok (x := .tup [.int 3]) (aTup_ok rfl (by simp)) (aFn_ok (aCons_ok (l := aNil) (aOp_ok rfl rfl (net_1 ns L _)) rfl) (lenT (n := L.length) (by simp) _)) ?_
    show (if -1000 ≤ (L.length : Int) ∧ (L.length : Int) ≤ 1000 ∧ [PV.int 3].length ≤ 1000 then _ else _) = _
    rw [if_pos ⟨by omega, by omega, by simp⟩]
  have ec : (aB (aOp fEq (aVar 1) (aC (.int 0)))) σ h = .ok (decide (w = 0)) h := aB_ok (aOp_ok rfl rfl (fEq_i _ _ _))
  have body : (sIf (aB (aOp fEq (aVar 1) (aC (.int 0)))) (sExpr (aCall 2 m_best_tree (aCons (aVar 2) (aCons (aOp fMul (aTup (aCons (aC (.int 3)) (aNil))) (aFn fnLen (aCons (aOp fIx (aVar 2) (aC (.int 1))) (aNil)))) (aNil))))) (sExpr (aCall 3 m_is_best (aCons (aVar 2) (aCons (aOp fMul (aTup (aCons (aC (.int 3)) (aNil))) (aFn fnLen (aCons (aOp fIx (aVar 2) (aC (.int 1))) (aNil)))) (aCons (aTup (aCons (aC (.int 0)) (aCons (aTup (aNil)) (aNil)))) (aNil))))))) σ h = .exc Errs.BadStep Ap σ h := by
    by_cases c : w = 0
    · rw [decide_eq_true c] at ec
      refine (sIf_t ec).trans (sExpr_exc ((aCall_ok (xs := [netV ns L, .tup (List.replicate (L.length : Int).toNat [.int 3]).flatten]) (h1 := h) (aCons_ok rfl (aCons_ok e3 rfl)) rfl rfl).trans (best_apart A _ h)))
    · rw [decide_eq_false c] at ec
      refine (sIf_f ec).trans (sExpr_exc ((aCall_ok (xs := [netV ns L, .tup (List.replicate (L.length : Int).toNat [.int 3]).flatten, .tup [.int 0, .tup []]]) (h1 := h) (aCons_ok rfl (aCons_ok e3 (aCons_ok (aTup_ok (aCons_ok rfl (aCons_ok (aTup_ok (xs := []) rfl (by simp)) rfl)) (by simp)) rfl))) rfl rfl).trans (is_apart A _ _ h)))
  exact sTry_exc body (by simp) (Nat.lt_succ_self 3) ((aIf_t tXi_hit).trans (aXf_hit rfl))
theorem apart {h : AH} (t : Tp h) (w : Int) : ∃ h', m__law_apart [.loc 3, .int w] h = .ok (.str "apart") h' ∧ Mv h h' := by
  unfold m__law_apart b__law_apart
  obtain ⟨r, ha, er, r0, r1, ma⟩ := pour t (k := 3) (sp := 8) (by omega) (by omega) (by omega)
  have ta := t.mv ma
  obtain ⟨q, hb, eq, q0, q1, mb⟩ := pour ta (k := 2) (sp := 8) (by omega) (by omega) (by omega)
  obtain ⟨r, rfl⟩ : ∃ k : Nat, r = k := ⟨r.toNat, by omega⟩
  let S : Option PV → ASt := fun o => [some (.loc 3), some (.int w), o, none]
  have mm := ma.tr mb
  have s1 : sSet 2 (aCut (aTup (aCons (aTup (aCons (aC (.str "p")) (aCons (aC (.str "q")) (aCons (aC (.str "r")) (aNil))))) (aCons (aSl (aTup (aCons (aTup (aCons (aC (.str "k")) (aCons (aC (.int 0)) (aCons (aC (.int 1)) (aNil))))) (aCons (aTup (aCons (aC (.str "l")) (aCons (aC (.int 1)) (aCons (aC (.int 0)) (aNil))))) (aNil)))) (aNoP) (aSoP (aCall 3 m__law_pour (aCons (aVar 0) (aCons (aC (.int 3)) (aCons (aC (.int 8)) (aNil))))))) (aNil))))) (S none) h = .fin .nx (S (some (netV apN (apL.take r)))) ha := by
    have x1 : (aTup (aCons (aC (.str "p")) (aCons (aC (.str "q")) (aCons (aC (.str "r")) (aNil))))) (S none) h = .ok (.tup (apN.map .str)) h := aTup_ok (xs := apN.map .str) rfl (by decide)
    have x2 : (aTup (aCons (aTup (aCons (aC (.str "k")) (aCons (aC (.int 0)) (aCons (aC (.int 1)) (aNil))))) (aCons (aTup (aCons (aC (.str "l")) (aCons (aC (.int 1)) (aCons (aC (.int 0)) (aNil))))) (aNil)))) (S none) h = .ok (.tup (apL.map lineV)) h := aTup_ok (xs := apL.map lineV) (aCons_ok (aTup_ok (xs := [.str "k", .int 0, .int 1]) rfl (by simp)) (aCons_ok (aTup_ok (xs := [.str "l", .int 1, .int 0]) rfl (by simp)) rfl)) (by decide)
    have x3 : (aSl (aTup (aCons (aTup (aCons (aC (.str "k")) (aCons (aC (.int 0)) (aCons (aC (.int 1)) (aNil))))) (aCons (aTup (aCons (aC (.str "l")) (aCons (aC (.int 1)) (aCons (aC (.int 0)) (aNil))))) (aNil)))) (aNoP) (aSoP (aCall 3 m__law_pour (aCons (aVar 0) (aCons (aC (.int 3)) (aCons (aC (.int 8)) (aNil))))))) (S none) h = .ok (.tup ((apL.take r).map lineV)) ha := by
      have xp : (aCall 3 m__law_pour (aCons (aVar 0) (aCons (aC (.int 3)) (aCons (aC (.int 8)) (aNil))))) (S none) h = .ok (.int r) ha := aCall_ok rfl rfl er
      unfold aSl
      rw [x2, Res.bind_ok, show aNoP (S none) h = .ok none h from rfl, Res.bind_ok]
      unfold aSoP
      rw [xp]
      show Res.ok (PV.tup (cutP (apL.map lineV) none (some (r : Int)))) ha = _
      rw [cut_to, ← List.map_take]
    refine sSet_ok ((aCut_ok (aTup_ok (xs := [.tup (apN.map .str), .tup ((apL.take r).map lineV)]) (aCons_ok x1 (aCons_ok x3 rfl)) (by simp))).trans (finC_mv0 t ma (netV_low _ _ _)))
  have ec : (aB (aOp fEq (aCall 3 m__law_pour (aCons (aVar 0) (aCons (aC (.int 2)) (aCons (aC (.int 8)) (aNil))))) (aC (.int 0)))) (S (some (netV apN (apL.take r)))) ha = .ok (decide (q = 0)) hb := aB_ok (aOp_ok (aCall_ok rfl rfl eq) rfl (fEq_i _ _ _))
  have fin : ∀ ns L, Apt ns L → (sIf (aB (aOp fEq (aCall 3 m__law_pour (aCons (aVar 0) (aCons (aC (.int 2)) (aCons (aC (.int 8)) (aNil))))) (aC (.int 0)))) (sSet 2 (aTup (aCons (aTup (aCons (aC (.str "p")) (aCons (aC (.str "q")) (aCons (aC (.str "r")) (aCons (aC (.str "s")) (aNil)))))) (aCons (aTup (aCons (aTup (aCons (aC (.str "k")) (aCons (aC (.int 2)) (aCons (aC (.int 1)) (aNil))))) (aCons (aTup (aCons (aC (.str "l")) (aCons (aC (.int 0)) (aCons (aC (.int 3)) (aNil))))) (aNil)))) (aNil))))) (sNext)) (S (some (netV apN (apL.take r)))) ha = .fin .nx (S (some (netV ns L))) hb → ∃ h', (mDef false 4 (sSeq (sSet 2 (aCut (aTup (aCons (aTup (aCons (aC (.str "p")) (aCons (aC (.str "q")) (aCons (aC (.str "r")) (aNil))))) (aCons (aSl (aTup (aCons (aTup (aCons (aC (.str "k")) (aCons (aC (.int 0)) (aCons (aC (.int 1)) (aNil))))) (aCons (aTup (aCons (aC (.str "l")) (aCons (aC (.int 1)) (aCons (aC (.int 0)) (aNil))))) (aNil)))) (aNoP) (aSoP (aCall 3 m__law_pour (aCons (aVar 0) (aCons (aC (.int 3)) (aCons (aC (.int 8)) (aNil))))))) (aNil)))))) (sSeq (sIf (aB (aOp fEq (aCall 3 m__law_pour (aCons (aVar 0) (aCons (aC (.int 2)) (aCons (aC (.int 8)) (aNil))))) (aC (.int 0)))) (sSet 2 (aTup (aCons (aTup (aCons (aC (.str "p")) (aCons (aC (.str "q")) (aCons (aC (.str "r")) (aCons (aC (.str "s")) (aNil)))))) (aCons (aTup (aCons (aTup (aCons (aC (.str "k")) (aCons (aC (.int 2)) (aCons (aC (.int 1)) (aNil))))) (aCons (aTup (aCons (aC (.str "l")) (aCons (aC (.int 0)) (aCons (aC (.int 3)) (aNil))))) (aNil)))) (aNil))))) (sNext)) (sSeq sAp3 (sRet (aC (.str "")))))) [.loc 3, .int w]) h = .ok (.str "apart") h' ∧ Mv h h' := fun ns L A e =>
    ⟨hb, (mDef_rt (n := 4) (xs := [.loc 3, .int w]) (σ := S (some (netV ns L))) (h1 := hb) (v := .str "apart") (sSeq_ok s1 (sSeq_ok e (sSeq_rt (ap_try A w hb))))).trans (finC_mv0 t mm rfl), mm⟩
  by_cases c : q = 0
  · rw [decide_eq_true c] at ec
    refine fin apM apK apt_2 ((sIf_t ec).trans (sSet_ok ?_))
    exact aTup_ok (xs := [.tup (apM.map .str), .tup (apK.map lineV)]) (aCons_ok (aTup_ok (xs := apM.map .str) rfl (by decide)) (aCons_ok (aTup_ok (xs := apK.map lineV) (aCons_ok (aTup_ok (xs := [.str "k", .int 2, .int 1]) rfl (by simp)) (aCons_ok (aTup_ok (xs := [.str "l", .int 0, .int 3]) rfl (by simp)) rfl)) (by decide)) rfl)) (by simp)
  · rw [decide_eq_false c] at ec
    exact fin _ _ (apt_1 (r := r) (by omega)) ((sIf_f ec).trans rfl)
end G12

namespace G12
open PySem PySem.Spec
open PyProof.Rows hiding St
open L2 AB MG
variable [Errs]
noncomputable abbrev sL1 : AS := (sIf (tNot (aTr (aCall 2 m__law_same (aCons (aCall 2 m__law_apart (aCons (aVar 1) (aCons (aCall 3 m__law_pour (aCons (aVar 1) (aCons (aC (.int 2)) (aCons (aC (.int 8)) (aNil))))) (aNil)))) (aCons (aC (.str "apart")) (aNil)))))) (sRet (aC (.bl false))) (sNext))
noncomputable abbrev sL2 : AS := (sFor (aItR1 (aCons (aC (.int 3)) (aNil))) (gN 2) (sIf (tNot (aTr (aCall 2 m__law_small (aCons (aVar 1) (aCons (aCall 3 m__law_net (aCons (aVar 1) (aCons (aOp fAdd (aC (.int 2)) (aCall 3 m__law_pour (aCons (aVar 1) (aCons (aC (.int 4)) (aCons (aC (.int 8)) (aNil)))))) (aCons (aC (.int 8)) (aNil))))) (aNil)))))) (sRet (aC (.bl false))) (sNext)))
noncomputable abbrev sL3 : AS := (sSet 3 (aTup (aCons (aTup (aCons (aC (.str "a")) (aCons (aC (.str "b")) (aCons (aC (.str "c")) (aCons (aC (.str "d")) (aNil)))))) (aCons (aTup (aCons (aTup (aCons (aC (.str "l0")) (aCons (aC (.int 0)) (aCons (aC (.int 1)) (aNil))))) (aCons (aTup (aCons (aC (.str "l1")) (aCons (aC (.int 1)) (aCons (aC (.int 2)) (aNil))))) (aCons (aTup (aCons (aC (.str "l2")) (aCons (aC (.int 2)) (aCons (aC (.int 3)) (aNil))))) (aCons (aTup (aCons (aC (.str "l3")) (aCons (aC (.int 0)) (aCons (aC (.int 3)) (aNil))))) (aCons (aTup (aCons (aC (.str "l4")) (aCons (aC (.int 0)) (aCons (aC (.int 2)) (aNil))))) (aNil))))))) (aNil)))))
noncomputable abbrev sL4 : AS := (sIf (tOr (tNot (aTr (aCall 2 m__law_same (aCons (aCall 2 m_best_tree (aCons (aVar 3) (aCons (aTup (aCons (aC (.int 1)) (aCons (aC (.int 5)) (aCons (aC (.int 1)) (aCons (aC (.int 5)) (aCons (aC (.int 2)) (aNil))))))) (aNil)))) (aCons (aTup (aCons (aC (.int 12)) (aCons (aTup (aCons (aC (.int 1)) (aCons (aC (.int 3)) (aCons (aC (.int 4)) (aNil))))) (aNil)))) (aNil)))))) (aB (aOp fNotB (aCall 3 m_is_best (aCons (aVar 3) (aCons (aTup (aCons (aC (.int 1)) (aCons (aC (.int 5)) (aCons (aC (.int 1)) (aCons (aC (.int 5)) (aCons (aC (.int 2)) (aNil))))))) (aCons (aTup (aCons (aC (.int 12)) (aCons (aTup (aCons (aC (.int 1)) (aCons (aC (.int 3)) (aCons (aC (.int 4)) (aNil))))) (aNil)))) (aNil))))) (aC (.bl true))))) (sRet (aC (.bl false))) (sNext))
noncomputable abbrev sL5 : AS := (sSet 4 (aOp fSub (aUn fNeg (aC (.int 1))) (aCall 3 m__law_pour (aCons (aVar 1) (aCons (aC (.int 20)) (aCons (aC (.int 8)) (aNil)))))))
noncomputable abbrev sL6 : AS := (sSet 5 (aTup (aCons (aCall 3 m_is_best (aCons (aVar 3) (aCons (aOp fMul (aTup (aCons (aVar 4) (aNil))) (aC (.int 5))) (aCons (aTup (aCons (aOp fMul (aC (.int 3)) (aVar 4)) (aCons (aTup (aCons (aC (.int 0)) (aCons (aC (.int 1)) (aCons (aC (.int 2)) (aNil))))) (aNil)))) (aNil))))) (aCons (aCall 3 m_is_best (aCons (aVar 3) (aCons (aOp fMul (aTup (aCons (aVar 4) (aNil))) (aC (.int 5))) (aCons (aTup (aCons (aOp fMul (aC (.int 3)) (aVar 4)) (aCons (aTup (aCons (aC (.int 0)) (aCons (aC (.int 1)) (aCons (aC (.int 4)) (aNil))))) (aNil)))) (aNil))))) (aNil)))))
noncomputable abbrev sL7 : AS := (sSet 5 (aOp fAdd (aVar 5) (aTup (aCons (aCall 3 m_is_best (aCons (aVar 3) (aCons (aOp fMul (aTup (aCons (aVar 4) (aNil))) (aC (.int 5))) (aCons (aTup (aCons (aOp fMul (aC (.int 2)) (aVar 4)) (aCons (aTup (aCons (aC (.int 0)) (aCons (aC (.int 1)) (aNil)))) (aNil)))) (aNil))))) (aCons (aCall 3 m_is_best (aCons (aVar 3) (aCons (aOp fMul (aTup (aCons (aVar 4) (aNil))) (aC (.int 5))) (aCons (aTup (aCons (aC (.int 0)) (aCons (aTup (aNil)) (aNil)))) (aNil))))) (aNil))))))
noncomputable abbrev sL8 : AS := (sIf (tOr (tNot (aTr (aCall 2 m__law_same (aCons (aVar 5) (aCons (aTup (aCons (aC (.bl true)) (aCons (aC (.bl false)) (aCons (aC (.bl false)) (aCons (aC (.bl false)) (aNil)))))) (aNil)))))) (tNot (aTr (aCall 4 m__law_holds (aCons (aVar 3) (aCons (aOp fMul (aTup (aCons (aVar 4) (aNil))) (aC (.int 5))) (aCons (aOp fMul (aC (.int 3)) (aVar 4)) (aCons (aCall 2 m_best_tree (aCons (aVar 3) (aCons (aOp fMul (aTup (aCons (aVar 4) (aNil))) (aC (.int 5))) (aNil)))) (aNil))))))))) (sRet (aC (.bl false))) (sNext))
noncomputable abbrev sL9 : AS := (sIf (tNot (aTr (aCall 2 m__law_same (aCons (aTup (aCons (aCall 2 m_best_tree (aCons (aTup (aCons (aTup (aCons (aC (.str "p")) (aNil))) (aCons (aTup (aNil)) (aNil)))) (aCons (aTup (aNil)) (aNil)))) (aCons (aCall 3 m_is_best (aCons (aTup (aCons (aTup (aCons (aC (.str "p")) (aNil))) (aCons (aTup (aNil)) (aNil)))) (aCons (aTup (aNil)) (aCons (aTup (aCons (aC (.int 0)) (aCons (aTup (aNil)) (aNil)))) (aNil))))) (aCons (aCall 3 m_is_best (aCons (aTup (aCons (aTup (aCons (aC (.str "p")) (aNil))) (aCons (aTup (aNil)) (aNil)))) (aCons (aTup (aNil)) (aCons (aTup (aCons (aC (.bl false)) (aCons (aTup (aNil)) (aNil)))) (aNil))))) (aNil))))) (aCons (aTup (aCons (aTup (aCons (aC (.int 0)) (aCons (aTup (aNil)) (aNil)))) (aCons (aC (.bl true)) (aCons (aC (.bl false)) (aNil))))) (aNil)))))) (sRet (aC (.bl false))) (sNext))
noncomputable abbrev sL10 : AS := (sRet (aOr (aOp fNe (aCall 3 m__law_pour (aCons (aVar 1) (aCons (aC (.int 13)) (aCons (aC (.int 8)) (aNil))))) (aC (.int 5))) (aCall 2 m__law_wide (aCons (aVar 1) (aCons (aCall 3 m__law_net (aCons (aVar 1) (aCons (aC (.int 10)) (aCons (aC (.int 20)) (aNil))))) (aNil))))))
def sgL (a : PV) (o2 o3 o4 o5 : Option PV) : ASt := [some a, some (.loc 3), o2, o3, o4, o5]
section
variable {a : PV}
theorem l1 {h : AH} (t : Tp h) (o2 o3 o4 o5 : Option PV) : ∃ h', sL1 (sgL a o2 o3 o4 o5) h = .fin .nx (sgL a o2 o3 o4 o5) h' ∧ Mv h h' := by
  obtain ⟨r, ha, er, r0, r1, ma⟩ := pour t (k := 2) (sp := 8) (by omega) (by omega) (by omega)
  obtain ⟨hb, eb, mb⟩ := apart (t.mv ma) r
  have es := same (v := .str "apart") rfl (show 1 ≤ 10000 by omega) hb
  refine ⟨hb, (sIf_f (h1 := hb) (tNot_ok (b := true) (aTr_ok (aCall_ok (aCons_ok (aCall_ok (aCons_ok rfl (aCons_ok (aCall_ok rfl rfl er) rfl)) rfl eb) rfl) rfl es)))).trans rfl, ma.tr mb⟩
theorem l2 {h : AH} (t : Tp h) (o2 o3 o4 o5 : Option PV) : ∃ h' o2', sL2 (sgL a o2 o3 o4 o5) h = .fin .nx (sgL a o2' o3 o4 o5) h' ∧ Mv h h' := by
  obtain ⟨σ', h2, eF, o2', rfl, m⟩ := for_rg (g := gN 2) (b := (sIf (tNot (aTr (aCall 2 m__law_small (aCons (aVar 1) (aCons (aCall 3 m__law_net (aCons (aVar 1) (aCons (aOp fAdd (aC (.int 2)) (aCall 3 m__law_pour (aCons (aVar 1) (aCons (aC (.int 4)) (aCons (aC (.int 8)) (aNil)))))) (aCons (aC (.int 8)) (aNil))))) (aNil)))))) (sRet (aC (.bl false))) (sNext))) 0 3 (fun _ σ g => ∃ o2, σ = sgL a o2 o3 o4 o5 ∧ Mv h g) (σ := sgL a o2 o3 o4 o5) (h := h) ⟨o2, rfl, t.rf⟩ (fun i σ g _ ⟨o2, e1, m⟩ => by
    subst e1
    have tg := t.mv m
    obtain ⟨r, ha, er, r0, r1, ma⟩ := pour tg (k := 4) (sp := 8) (by omega) (by omega) (by omega)
    obtain ⟨k, hk, k4⟩ : ∃ k : Nat, 2 + r = k ∧ 2 ≤ k ∧ k ≤ 5 := ⟨(2 + r).toNat, by omega, by omega, by omega⟩
    obtain ⟨ns, L, hb, eb, N, ln, lL, mb⟩ := net (tg.mv ma) (n := k) (most := 8) (by omega) (by omega) (by omega)
    obtain ⟨hc, ec, mc⟩ := small N (by omega) (by omega) ((tg.mv ma).mv mb)
    let σ1 := sgL a (some (.int ((0 : Int) + (i : Nat)))) o3 o4 o5
    have e2 : (aOp fAdd (aC (.int 2)) (aCall 3 m__law_pour (aCons (aVar 1) (aCons (aC (.int 4)) (aCons (aC (.int 8)) (aNil)))))) σ1 g = .ok (.int k) ha := by
      rw [← hk]
      exact aOp_ok rfl (aCall_ok rfl rfl er) (fAdd_i _ _ _)
    exact ⟨σ1, g, σ1, hc, rfl, (sIf_f (h1 := hc) (tNot_ok (b := true) (aTr_ok (aCall_ok (aCons_ok rfl (aCons_ok (aCall_ok (aCons_ok rfl (aCons_ok e2 (aCons_ok rfl rfl))) rfl eb) rfl)) rfl ec)))).trans rfl, _, rfl, m.tr ((ma.tr mb).tr mc)⟩)
  exact ⟨h2, o2', sFor_ok (aItR1_ok (j := 3) rfl (by omega) (by omega)) eF, m⟩
abbrev sqV : PV := netV sqN sqL
theorem l3 (h : AH) (o2 o4 o5 : Option PV) : sL3 (sgL a o2 none o4 o5) h = .fin .nx (sgL a o2 (some sqV) o4 o5) h := by
  refine sSet_ok (v := sqV) (h1 := h) ?_
  exact aTup_ok (xs := [.tup (sqN.map .str), .tup (sqL.map lineV)]) (aCons_ok (aTup_ok (xs := sqN.map .str) rfl (by decide)) (aCons_ok (aTup_ok (xs := sqL.map lineV) (aCons_ok (aTup_ok (xs := [.str "l0", .int 0, .int 1]) rfl (by simp)) (aCons_ok (aTup_ok (xs := [.str "l1", .int 1, .int 2]) rfl (by simp)) (aCons_ok (aTup_ok (xs := [.str "l2", .int 2, .int 3]) rfl (by simp)) (aCons_ok (aTup_ok (xs := [.str "l3", .int 0, .int 3]) rfl (by simp)) (aCons_ok (aTup_ok (xs := [.str "l4", .int 0, .int 2]) rfl (by simp)) rfl))))) (by decide)) rfl)) (by simp)
def wsQ : List Int := [1, 5, 1, 5, 2]
theorem q_best (h : AH) : m_best_tree [sqV, wsV wsQ] h = .ok (.tup [.int 12, .tup ([1, 3, 4].map nI)]) h := by
  have q := best_tree sqNet (ws := wsQ) rfl h
  rw [show bestW sqL wsQ = 12 from sqW, show bestK sqL wsQ = [1, 3, 4] from sqK] at q
  exact q
theorem q_is (h : AH) : m_is_best [sqV, wsV wsQ, .tup [.int 12, .tup ([1, 3, 4].map nI)]] h = .ok (.bl true) h := by
  have T := bestK_tree sqNet (ws := wsQ)
  have g := (tree_good sqNet T 12).1
  obtain ⟨b, e, i⟩ := is_best sqNet (ws := wsQ) rfl g h
  have : b = true := i.mpr ⟨bestK sqL wsQ, by rw [show bestW sqL wsQ = 12 from sqW]; rfl, T, rfl⟩
  subst this
  rw [show bestK sqL wsQ = [1, 3, 4] from sqK] at e
  exact e
theorem l4 (h : AH) (o2 o4 o5 : Option PV) : sL4 (sgL a o2 (some sqV) o4 o5) h = .fin .nx (sgL a o2 (some sqV) o4 o5) h := by
  let σ := sgL a o2 (some sqV) o4 o5
  have ew : (aTup (aCons (aC (.int 1)) (aCons (aC (.int 5)) (aCons (aC (.int 1)) (aCons (aC (.int 5)) (aCons (aC (.int 2)) (aNil))))))) σ h = .ok (wsV wsQ) h := aTup_ok (xs := wsQ.map .int) rfl (by decide)
  have e1 : (aTup (aCons (aC (.int 12)) (aCons (aTup (aCons (aC (.int 1)) (aCons (aC (.int 3)) (aCons (aC (.int 4)) (aNil))))) (aNil)))) σ h = .ok (.tup [.int 12, .tup ([1, 3, 4].map nI)]) h := aTup_ok (xs := [.int 12, .tup ([1, 3, 4].map nI)]) (aCons_ok rfl (aCons_ok (aTup_ok (xs := [1, 3, 4].map nI) rfl (by decide)) rfl)) (by simp)
  have es := same (v := .tup [.int 12, .tup ([1, 3, 4].map nI)]) rfl (by decide) h
  have c1 : (tNot (aTr (aCall 2 m__law_same (aCons (aCall 2 m_best_tree (aCons (aVar 3) (aCons (aTup (aCons (aC (.int 1)) (aCons (aC (.int 5)) (aCons (aC (.int 1)) (aCons (aC (.int 5)) (aCons (aC (.int 2)) (aNil))))))) (aNil)))) (aCons (aTup (aCons (aC (.int 12)) (aCons (aTup (aCons (aC (.int 1)) (aCons (aC (.int 3)) (aCons (aC (.int 4)) (aNil))))) (aNil)))) (aNil)))))) σ h = .ok false h :=
    tNot_ok (b := true) (aTr_ok (aCall_ok (aCons_ok (aCall_ok (aCons_ok rfl (aCons_ok ew rfl)) rfl (q_best h)) (aCons_ok e1 rfl)) rfl es))
  have c2 : (aB (aOp fNotB (aCall 3 m_is_best (aCons (aVar 3) (aCons (aTup (aCons (aC (.int 1)) (aCons (aC (.int 5)) (aCons (aC (.int 1)) (aCons (aC (.int 5)) (aCons (aC (.int 2)) (aNil))))))) (aCons (aTup (aCons (aC (.int 12)) (aCons (aTup (aCons (aC (.int 1)) (aCons (aC (.int 3)) (aCons (aC (.int 4)) (aNil))))) (aNil)))) (aNil))))) (aC (.bl true)))) σ h = .ok false h :=
    aB_ok (aOp_ok (aCall_ok (aCons_ok rfl (aCons_ok ew (aCons_ok e1 rfl))) rfl (q_is h)) rfl rfl)
  exact (sIf_f ((tOr_f c1).trans c2)).trans rfl
theorem l5 {h : AH} (t : Tp h) (o2 o3 o5 : Option PV) : ∃ (w : Int) (h' : AH), sL5 (sgL a o2 o3 none o5) h = .fin .nx (sgL a o2 o3 (some (.int w)) o5) h' ∧ Mv h h' ∧ w < 0 ∧ -30 < w := by
  obtain ⟨r, ha, er, r0, r1, ma⟩ := pour t (k := 20) (sp := 8) (by omega) (by omega) (by omega)
  exact ⟨-1 - r, ha, sSet_ok (aOp_ok (x := .int (-1)) (h1 := h) rfl (aCall_ok rfl rfl er) (fSub_i _ _ _)), ma, by omega, by omega⟩
theorem lo_is {w : Int} (hw : w < 0) (h : AH) : m_is_best [sqV, wsV (lo5 w), .tup [.int (3 * w), .tup ([0, 1, 2].map nI)]] h = .ok (.bl true) h ∧ m_is_best [sqV, wsV (lo5 w), .tup [.int (3 * w), .tup ([0, 1, 4].map nI)]] h = .ok (.bl false) h ∧ m_is_best [sqV, wsV (lo5 w), .tup [.int (2 * w), .tup ([0, 1].map nI)]] h = .ok (.bl false) h ∧ m_is_best [sqV, wsV (lo5 w), .tup [.int 0, .tup (([] : List Nat).map nI)]] h = .ok (.bl false) h := by
  have gt : ∀ (i : Int) (ks : List Nat), ks.length ≤ 20 → GT (.tup [.int i, .tup (ks.map nI)]) := fun i ks hz => by
    have p : ∀ x ∈ ks.map nI, FL x := fun x hx => by obtain ⟨k, _, rfl⟩ := List.mem_map.mp hx; exact fl_int _
    exact (gt2 (fl_int i) (gy_flat p (by simp; omega)) fun k => low_tup (lows_fl p k)).1
  have no : ∀ (i : Int) (ks : List Nat), ks.length ≤ 20 → (¬ (i = 3 * w ∧ Tree sqN.length sqL ks)) → m_is_best [sqV, wsV (lo5 w), .tup [.int i, .tup (ks.map nI)]] h = .ok (.bl false) h := fun i ks hz n => by
    obtain ⟨b, e, q⟩ := is_best sqNet (ws := lo5 w) rfl (gt i ks hz) h
    rw [lo5_best] at q
    cases b with
    | false => exact e
    | true =>
      obtain ⟨x, js, y, T, _⟩ := Due.two.mp (q.mp rfl)
      have : ks = js := nI_inj (PV.tup.inj y)
      subst this
      exact absurd ⟨PV.int.inj x, T⟩ n
  refine ⟨?_, no _ _ (by decide) fun q => sqNo q.2, no _ _ (by decide) fun q => by have := q.1; omega, no _ _ (by decide) fun q => by have := q.1; omega⟩
  obtain ⟨b, e, q⟩ := is_best sqNet (ws := lo5 w) rfl (gt (3 * w) [0, 1, 2] (by decide)) h
  rw [lo5_best] at q
  have : b = true := q.mpr ⟨[0, 1, 2], rfl, sqA, lo5_tree w sqA⟩
  subst this
  exact e
theorem mul5 (w : Int) (h : AH) : fMul (.tup [.int w]) (.int 5) h = .ok (wsV (lo5 w)) h := rfl
theorem lows5 {o2 o5 : Option PV} {w : Int} (h : AH) : (aOp fMul (aTup (aCons (aVar 4) (aNil))) (aC (.int 5))) (sgL a o2 (some sqV) (some (.int w)) o5) h = .ok (wsV (lo5 w)) h := aOp_ok (x := .tup [.int w]) (aTup_ok rfl (by simp)) rfl (mul5 w h)
theorem l6 {w : Int} (hw : w < 0) (hw2 : -30 < w) (h : AH) (o2 : Option PV) : sL6 (sgL a o2 (some sqV) (some (.int w)) none) h = .fin .nx (sgL a o2 (some sqV) (some (.int w)) (some (.tup [.bl true, .bl false]))) h := by
  obtain ⟨i1, i2, _, _⟩ := lo_is hw h
  let σ := sgL a o2 (some sqV) (some (.int w)) none
  have e3 : (aOp fMul (aC (.int 3)) (aVar 4)) σ h = .ok (.int (3 * w)) h := aOp_ok rfl rfl (fMul_i (by omega) (by omega) _)
  have p1 : (aTup (aCons (aOp fMul (aC (.int 3)) (aVar 4)) (aCons (aTup (aCons (aC (.int 0)) (aCons (aC (.int 1)) (aCons (aC (.int 2)) (aNil))))) (aNil)))) σ h = .ok (.tup [.int (3 * w), .tup ([0, 1, 2].map nI)]) h := aTup_ok (aCons_ok e3 (aCons_ok (aTup_ok (xs := [0, 1, 2].map nI) rfl (by decide)) rfl)) (by simp)
  have p2 : (aTup (aCons (aOp fMul (aC (.int 3)) (aVar 4)) (aCons (aTup (aCons (aC (.int 0)) (aCons (aC (.int 1)) (aCons (aC (.int 4)) (aNil))))) (aNil)))) σ h = .ok (.tup [.int (3 * w), .tup ([0, 1, 4].map nI)]) h := aTup_ok (aCons_ok e3 (aCons_ok (aTup_ok (xs := [0, 1, 4].map nI) rfl (by decide)) rfl)) (by simp)
  exact sSet_ok (aTup_ok (xs := [.bl true, .bl false]) (aCons_ok (aCall_ok (aCons_ok rfl (aCons_ok (lows5 h) (aCons_ok p1 rfl))) rfl i1) (aCons_ok (aCall_ok (aCons_ok rfl (aCons_ok (lows5 h) (aCons_ok p2 rfl))) rfl i2) rfl)) (by simp))
theorem l7 {w : Int} (hw : w < 0) (hw2 : -30 < w) (h : AH) (o2 : Option PV) : sL7 (sgL a o2 (some sqV) (some (.int w)) (some (.tup [.bl true, .bl false]))) h = .fin .nx (sgL a o2 (some sqV) (some (.int w)) (some (.tup [.bl true, .bl false, .bl false, .bl false]))) h := by
  obtain ⟨_, _, i3, i4⟩ := lo_is hw h
  let σ := sgL a o2 (some sqV) (some (.int w)) (some (.tup [.bl true, .bl false]))
  have e3 : (aOp fMul (aC (.int 2)) (aVar 4)) σ h = .ok (.int (2 * w)) h := aOp_ok rfl rfl (fMul_i (by omega) (by omega) _)
  have p1 : (aTup (aCons (aOp fMul (aC (.int 2)) (aVar 4)) (aCons (aTup (aCons (aC (.int 0)) (aCons (aC (.int 1)) (aNil)))) (aNil)))) σ h = .ok (.tup [.int (2 * w), .tup ([0, 1].map nI)]) h := aTup_ok (aCons_ok e3 (aCons_ok (aTup_ok (xs := [0, 1].map nI) rfl (by decide)) rfl)) (by simp)
  have p2 : (aTup (aCons (aC (.int 0)) (aCons (aTup (aNil)) (aNil)))) σ h = .ok (.tup [.int 0, .tup (([] : List Nat).map nI)]) h := aTup_ok (aCons_ok rfl (aCons_ok (aTup_ok (xs := []) rfl (by simp)) rfl)) (by simp)
  refine sSet_ok (aOp_ok (x := .tup [.bl true, .bl false]) (y := .tup [.bl false, .bl false]) rfl (aTup_ok (aCons_ok (aCall_ok (aCons_ok rfl (aCons_ok (lows5 h) (aCons_ok p1 rfl))) rfl i3) (aCons_ok (aCall_ok (aCons_ok rfl (aCons_ok (lows5 h) (aCons_ok p2 rfl))) rfl i4) rfl)) (by simp)) (fAdd_t (by simp)))
theorem l8 {w : Int} (hw : w < 0) (hw2 : -30 < w) (h : AH) (o2 : Option PV) : sL8 (sgL a o2 (some sqV) (some (.int w)) (some (.tup [.bl true, .bl false, .bl false, .bl false]))) h = .fin .nx (sgL a o2 (some sqV) (some (.int w)) (some (.tup [.bl true, .bl false, .bl false, .bl false]))) h := by
  let V : PV := .tup [.bl true, .bl false, .bl false, .bl false]
  let σ := sgL a o2 (some sqV) (some (.int w)) (some V)
  have es := same (v := V) rfl (by decide) h
  have gb := best_good sqNet (ws := lo5 w) rfl
  obtain ⟨b, e, q⟩ := holds sqNet.lt sqNet.pos sqNet.n10 sqNet.l20 (ws := lo5 w) rfl (bestW sqL (lo5 w)) gb.1 h
  have : b = true := q.mpr ⟨bestK sqL (lo5 w), rfl, bestK_tree sqNet, rfl⟩
  subst this
  have eb := best_tree sqNet (ws := lo5 w) rfl h
  rw [lo5_best] at e eb
  have e3 : (aOp fMul (aC (.int 3)) (aVar 4)) σ h = .ok (.int (3 * w)) h := aOp_ok rfl rfl (fMul_i (by omega) (by omega) _)
  have ev : (aTup (aCons (aC (.bl true)) (aCons (aC (.bl false)) (aCons (aC (.bl false)) (aCons (aC (.bl false)) (aNil)))))) σ h = .ok V h := aTup_ok (xs := [.bl true, .bl false, .bl false, .bl false]) rfl (by simp)
  refine (sIf_f (h1 := h) ((tOr_f (h1 := h) (tNot_ok (b := true) (aTr_ok (aCall_ok (aCons_ok rfl (aCons_ok ev rfl)) rfl es)))).trans (tNot_ok (b := true) (aTr_ok (aCall_ok (aCons_ok rfl (aCons_ok (lows5 h) (aCons_ok e3 (aCons_ok (aCall_ok (aCons_ok rfl (aCons_ok (lows5 h) rfl)) rfl eb) rfl)))) rfl e))))).trans rfl
/-! one place -/
theorem pNet : Net ["p"] [] := ⟨by decide, by simp, fun p hp => by
  have : p < 1 := hp
  have : p = 0 := by omega
  subst this
  exact Cn.rf _, by decide, by decide⟩
theorem p_K : bestK [] [] = [] := by
  have := tree_len pNet (bestK_tree pNet (ws := []))
  exact List.length_eq_zero_iff.mp (by have : (["p"] : List Str).length = 1 := rfl; omega)
theorem p_W : bestW [] [] = 0 := by unfold bestW; rw [p_K]; rfl
abbrev pV : PV := .tup [.tup [.str "p"], .tup []]
theorem p_best (h : AH) : m_best_tree [pV, .tup []] h = .ok (.tup [.int 0, .tup []]) h := by
  have q := best_tree pNet (ws := []) rfl h
  rw [p_W, p_K] at q
  exact q
theorem p_is1 (h : AH) : m_is_best [pV, .tup [], .tup [.int 0, .tup []]] h = .ok (.bl true) h := by
  have g := best_good pNet (ws := []) rfl
  obtain ⟨b, e, q⟩ := is_best pNet (ws := []) rfl g.1 h
  have : b = true := q.mpr ⟨bestK [] [], rfl, bestK_tree pNet, rfl⟩
  subst this
  rw [p_W, show tN (bestK [] []) = .tup [] by rw [p_K]; rfl] at e
  exact e
theorem p_is2 (h : AH) : m_is_best [pV, .tup [], .tup [.bl false, .tup []]] h = .ok (.bl false) h := by
  have g : GT (.tup [.bl false, .tup []]) := (gt2 ⟨rfl, fun _ => rfl⟩ (gy_flat (ys := []) (by simp) (by simp)) fun _ => rfl).1
  obtain ⟨b, e, q⟩ := is_best pNet (ws := []) rfl g h
  cases b with
  | false => exact e
  | true =>
    obtain ⟨x, _⟩ := Due.two.mp (q.mp rfl)
    cases x
theorem l9 (h : AH) (o2 o3 o4 o5 : Option PV) : sL9 (sgL a o2 o3 o4 o5) h = .fin .nx (sgL a o2 o3 o4 o5) h := by
  let σ := sgL a o2 o3 o4 o5
  let V : PV := .tup [.tup [.int 0, .tup []], .bl true, .bl false]
  have t0 : ∀ g, (aTup (aNil)) σ g = .ok (.tup []) g := fun _ => aTup_ok (xs := []) rfl (by simp)
  have ep : (aTup (aCons (aTup (aCons (aC (.str "p")) (aNil))) (aCons (aTup (aNil)) (aNil)))) σ h = .ok pV h := aTup_ok (aCons_ok (aTup_ok (xs := [.str "p"]) rfl (by simp)) (aCons_ok (t0 h) rfl)) (by simp)
  have e0 : (aTup (aCons (aC (.int 0)) (aCons (aTup (aNil)) (aNil)))) σ h = .ok (.tup [.int 0, .tup []]) h := aTup_ok (aCons_ok rfl (aCons_ok (t0 h) rfl)) (by simp)
  have ef : (aTup (aCons (aC (.bl false)) (aCons (aTup (aNil)) (aNil)))) σ h = .ok (.tup [.bl false, .tup []]) h := aTup_ok (aCons_ok rfl (aCons_ok (t0 h) rfl)) (by simp)
  have es := same (v := V) rfl (by decide) h
  refine (sIf_f (h1 := h) (tNot_ok (b := true) (aTr_ok (aCall_ok (xs := [V, V]) (aCons_ok (aTup_ok (aCons_ok (aCall_ok (aCons_ok ep (aCons_ok (t0 h) rfl)) rfl (p_best h)) (aCons_ok (aCall_ok (aCons_ok ep (aCons_ok (t0 h) (aCons_ok e0 rfl))) rfl (p_is1 h)) (aCons_ok (aCall_ok (aCons_ok ep (aCons_ok (t0 h) (aCons_ok ef rfl))) rfl (p_is2 h)) rfl))) (by simp)) (aCons_ok (aTup_ok (aCons_ok e0 rfl) (by simp)) rfl)) rfl es)))).trans rfl
theorem l10 {h : AH} (t : Tp h) (o2 o3 o4 o5 : Option PV) : ∃ h', sL10 (sgL a o2 o3 o4 o5) h = .fin (.rt (.bl true)) (sgL a o2 o3 o4 o5) h' := by
  obtain ⟨r, ha, er, r0, r1, ma⟩ := pour t (k := 13) (sp := 8) (by omega) (by omega) (by omega)
  have ta := t.mv ma
  have e1 : (aOp fNe (aCall 3 m__law_pour (aCons (aVar 1) (aCons (aC (.int 13)) (aCons (aC (.int 8)) (aNil))))) (aC (.int 5))) (sgL a o2 o3 o4 o5) h = .ok (.bl (!decide (r = 5))) ha := aOp_ok (aCall_ok rfl rfl er) rfl (fNe_i _ _ _)
  by_cases c : r = 5
  · rw [decide_eq_true c] at e1
    obtain ⟨ns, L, hb, eb, N, ln, lL, mb⟩ := net ta (n := 10) (most := 20) (by omega) (by omega) (by omega)
    obtain ⟨hc, ec, mc⟩ := wide N (ta.mv mb)
    refine ⟨hc, sRet_ok ?_⟩
    rw [aOr_eq, e1]
    exact aCall_ok (aCons_ok rfl (aCons_ok (aCall_ok rfl rfl eb) rfl)) rfl ec
  · rw [decide_eq_false c] at e1
    refine ⟨ha, sRet_ok ?_⟩
    rw [aOr_eq, e1]; rfl
end
theorem law_ok (ns : List Int) (hl : ns.length ≤ 63) : ∃ h', m_law [.ro (ns.map PV.int)] [] = .ok (.bl true) h' := by
  unfold m_law b_law
  let a : PV := .ro (ns.map PV.int)
  obtain ⟨h1, e1, t1⟩ := kettle ns
  obtain ⟨h2, e2, m2⟩ := l1 (a := a) t1 none none none none
  have t2 := t1.mv m2
  obtain ⟨h3, o2, e3, m3⟩ := l2 (a := a) t2 none none none none
  have t3 := t2.mv m3
  obtain ⟨w, h4, e5, m4, w0, w1⟩ := l5 (a := a) t3 o2 (some sqV) none
  have t4 := t3.mv m4
  obtain ⟨h5, e10⟩ := l10 (a := a) t4 o2 (some sqV) (some (.int w)) (some (.tup [.bl true, .bl false, .bl false, .bl false]))
  refine ⟨[], (mDef_rt (n := 6) (xs := [a]) (σ := sgL a o2 (some sqV) (some (.int w)) (some (.tup [.bl true, .bl false, .bl false, .bl false]))) (h1 := [] ++ h5) (v := .bl true) ?_).trans (finC_ext rfl)⟩
  refine sSeq_ok (σ1 := sgL a none none none none) (h1 := h1) (sSet_ok (aCall_ok rfl rfl e1)) ?_
  refine sSeq_ok e2 (sSeq_ok e3 (sSeq_ok (l3 h3 _ _ _) (sSeq_ok (l4 h3 _ _ _) (sSeq_ok e5 ?_))))
  exact sSeq_ok (l6 w0 w1 h4 _) (sSeq_ok (l7 w0 w1 h4 _) (sSeq_ok (l8 w0 w1 h4 _) (sSeq_ok (l9 h4 _ _ _ _) e10)))
end G12

namespace G12
open PySem PySem.Spec
open PyProof.Rows hiding St
open L2 AB
section
theorem all_mk {P : Program} {w : World} {K : PySem.W.Frag} {h : Heap} {mg : Str → Option Value} {fa : Addr} (X : K.In h) (G : h.Ns mainGlobals mg) (hfa : mg "law" = some (.ref fa))
    {od1 an1 : Option Addr} {sl1 : Array (Option Value)} {f1 : Addr} {oc1 kV1 dc1 pm1 cd1 ct1 : Value}
    (a1 : PySem.W.nsIn K mainGlobals "is_integer" = some (some (.ref f1))) (l1 : K.lookup f1 = some ⟨oc1, od1, .func (PySem.W.fnOf "is_integer" "is_integer" (defArgs s_is_integer) (defBody s_is_integer) (defScope s_is_integer) .none kV1 dc1 pm1 an1 cd1 ct1), sl1⟩) (c1 : PySem.W.codeIn K cd1 "is_integer" = true) (k1 : PySem.W.keepIn K (.ref f1) = true)
    {od2 an2 : Option Addr} {sl2 : Array (Option Value)} {f2 : Addr} {oc2 kV2 dc2 pm2 cd2 ct2 : Value}
    (a2 : PySem.W.nsIn K mainGlobals "tuple_of" = some (some (.ref f2))) (l2 : K.lookup f2 = some ⟨oc2, od2, .func (PySem.W.fnOf "tuple_of" "tuple_of" (defArgs s_tuple_of) (defBody s_tuple_of) (defScope s_tuple_of) .none kV2 dc2 pm2 an2 cd2 ct2), sl2⟩) (c2 : PySem.W.codeIn K cd2 "tuple_of" = true) (k2 : PySem.W.keepIn K (.ref f2) = true)
    {od3 an3 : Option Addr} {sl3 : Array (Option Value)} {f3 : Addr} {oc3 kV3 dc3 pm3 cd3 ct3 : Value}
    (a3 : PySem.W.nsIn K mainGlobals "ends_of" = some (some (.ref f3))) (l3 : K.lookup f3 = some ⟨oc3, od3, .func (PySem.W.fnOf "ends_of" "ends_of" (defArgs s_ends_of) (defBody s_ends_of) (defScope s_ends_of) .none kV3 dc3 pm3 an3 cd3 ct3), sl3⟩) (c3 : PySem.W.codeIn K cd3 "ends_of" = true) (k3 : PySem.W.keepIn K (.ref f3) = true)
    {od4 an4 : Option Addr} {sl4 : Array (Option Value)} {f4 : Addr} {oc4 kV4 dc4 pm4 cd4 ct4 : Value}
    (a4 : PySem.W.nsIn K mainGlobals "merged" = some (some (.ref f4))) (l4 : K.lookup f4 = some ⟨oc4, od4, .func (PySem.W.fnOf "merged" "merged" (defArgs s_merged) (defBody s_merged) (defScope s_merged) .none kV4 dc4 pm4 an4 cd4 ct4), sl4⟩) (c4 : PySem.W.codeIn K cd4 "merged" = true) (k4 : PySem.W.keepIn K (.ref f4) = true)
    {od5 an5 : Option Addr} {sl5 : Array (Option Value)} {f5 : Addr} {oc5 kV5 dc5 pm5 cd5 ct5 : Value}
    (a5 : PySem.W.nsIn K mainGlobals "all_lines" = some (some (.ref f5))) (l5 : K.lookup f5 = some ⟨oc5, od5, .func (PySem.W.fnOf "all_lines" "all_lines" (defArgs s_all_lines) (defBody s_all_lines) (defScope s_all_lines) .none kV5 dc5 pm5 an5 cd5 ct5), sl5⟩) (c5 : PySem.W.codeIn K cd5 "all_lines" = true) (k5 : PySem.W.keepIn K (.ref f5) = true)
    {od6 an6 : Option Addr} {sl6 : Array (Option Value)} {f6 : Addr} {oc6 kV6 dc6 pm6 cd6 ct6 : Value}
    (a6 : PySem.W.nsIn K mainGlobals "worth_of" = some (some (.ref f6))) (l6 : K.lookup f6 = some ⟨oc6, od6, .func (PySem.W.fnOf "worth_of" "worth_of" (defArgs s_worth_of) (defBody s_worth_of) (defScope s_worth_of) .none kV6 dc6 pm6 an6 cd6 ct6), sl6⟩) (c6 : PySem.W.codeIn K cd6 "worth_of" = true) (k6 : PySem.W.keepIn K (.ref f6) = true)
    {od7 an7 : Option Addr} {sl7 : Array (Option Value)} {f7 : Addr} {oc7 kV7 dc7 pm7 cd7 ct7 : Value}
    (a7 : PySem.W.nsIn K mainGlobals "_law_kettle" = some (some (.ref f7))) (l7 : K.lookup f7 = some ⟨oc7, od7, .func (PySem.W.fnOf "_law_kettle" "_law_kettle" (defArgs s__law_kettle) (defBody s__law_kettle) (defScope s__law_kettle) .none kV7 dc7 pm7 an7 cd7 ct7), sl7⟩) (c7 : PySem.W.codeIn K cd7 "_law_kettle" = true) (k7 : PySem.W.keepIn K (.ref f7) = true)
    {od8 an8 : Option Addr} {sl8 : Array (Option Value)} {f8 : Addr} {oc8 kV8 dc8 pm8 cd8 ct8 : Value}
    (a8 : PySem.W.nsIn K mainGlobals "_law_pour" = some (some (.ref f8))) (l8 : K.lookup f8 = some ⟨oc8, od8, .func (PySem.W.fnOf "_law_pour" "_law_pour" (defArgs s__law_pour) (defBody s__law_pour) (defScope s__law_pour) .none kV8 dc8 pm8 an8 cd8 ct8), sl8⟩) (c8 : PySem.W.codeIn K cd8 "_law_pour" = true) (k8 : PySem.W.keepIn K (.ref f8) = true)
    {od9 an9 : Option Addr} {sl9 : Array (Option Value)} {f9 : Addr} {oc9 kV9 dc9 pm9 cd9 ct9 : Value}
    (a9 : PySem.W.nsIn K mainGlobals "_law_same" = some (some (.ref f9))) (l9 : K.lookup f9 = some ⟨oc9, od9, .func (PySem.W.fnOf "_law_same" "_law_same" (defArgs s__law_same) (defBody s__law_same) (defScope s__law_same) .none kV9 dc9 pm9 an9 cd9 ct9), sl9⟩) (c9 : PySem.W.codeIn K cd9 "_law_same" = true) (k9 : PySem.W.keepIn K (.ref f9) = true)
    {od10 an10 : Option Addr} {sl10 : Array (Option Value)} {f10 : Addr} {oc10 kV10 dc10 pm10 cd10 ct10 : Value}
    (a10 : PySem.W.nsIn K mainGlobals "_law_groups" = some (some (.ref f10))) (l10 : K.lookup f10 = some ⟨oc10, od10, .func (PySem.W.fnOf "_law_groups" "_law_groups" (defArgs s__law_groups) (defBody s__law_groups) (defScope s__law_groups) .none kV10 dc10 pm10 an10 cd10 ct10), sl10⟩) (c10 : PySem.W.codeIn K cd10 "_law_groups" = true) (k10 : PySem.W.keepIn K (.ref f10) = true)
    {od11 an11 : Option Addr} {sl11 : Array (Option Value)} {f11 : Addr} {oc11 kV11 dc11 pm11 cd11 ct11 : Value}
    (a11 : PySem.W.nsIn K mainGlobals "_law_forest" = some (some (.ref f11))) (l11 : K.lookup f11 = some ⟨oc11, od11, .func (PySem.W.fnOf "_law_forest" "_law_forest" (defArgs s__law_forest) (defBody s__law_forest) (defScope s__law_forest) .none kV11 dc11 pm11 an11 cd11 ct11), sl11⟩) (c11 : PySem.W.codeIn K cd11 "_law_forest" = true) (k11 : PySem.W.keepIn K (.ref f11) = true)
    {od12 an12 : Option Addr} {sl12 : Array (Option Value)} {f12 : Addr} {oc12 kV12 dc12 pm12 cd12 ct12 : Value}
    (a12 : PySem.W.nsIn K mainGlobals "_law_trees" = some (some (.ref f12))) (l12 : K.lookup f12 = some ⟨oc12, od12, .func (PySem.W.fnOf "_law_trees" "_law_trees" (defArgs s__law_trees) (defBody s__law_trees) (defScope s__law_trees) .none kV12 dc12 pm12 an12 cd12 ct12), sl12⟩) (c12 : PySem.W.codeIn K cd12 "_law_trees" = true) (k12 : PySem.W.keepIn K (.ref f12) = true)
    {od13 an13 : Option Addr} {sl13 : Array (Option Value)} {f13 : Addr} {oc13 kV13 dc13 pm13 cd13 ct13 : Value}
    (a13 : PySem.W.nsIn K mainGlobals "_law_worth" = some (some (.ref f13))) (l13 : K.lookup f13 = some ⟨oc13, od13, .func (PySem.W.fnOf "_law_worth" "_law_worth" (defArgs s__law_worth) (defBody s__law_worth) (defScope s__law_worth) .none kV13 dc13 pm13 an13 cd13 ct13), sl13⟩) (c13 : PySem.W.codeIn K cd13 "_law_worth" = true) (k13 : PySem.W.keepIn K (.ref f13) = true)
    {od14 an14 : Option Addr} {sl14 : Array (Option Value)} {f14 : Addr} {oc14 kV14 dc14 pm14 cd14 ct14 : Value}
    (a14 : PySem.W.nsIn K mainGlobals "integer_within" = some (some (.ref f14))) (l14 : K.lookup f14 = some ⟨oc14, od14, .func (PySem.W.fnOf "integer_within" "integer_within" (defArgs s_integer_within) (defBody s_integer_within) (defScope s_integer_within) .none kV14 dc14 pm14 an14 cd14 ct14), sl14⟩) (c14 : PySem.W.codeIn K cd14 "integer_within" = true) (k14 : PySem.W.keepIn K (.ref f14) = true)
    {od15 an15 : Option Addr} {sl15 : Array (Option Value)} {f15 : Addr} {oc15 kV15 dc15 pm15 cd15 ct15 : Value}
    (a15 : PySem.W.nsIn K mainGlobals "homes_by" = some (some (.ref f15))) (l15 : K.lookup f15 = some ⟨oc15, od15, .func (PySem.W.fnOf "homes_by" "homes_by" (defArgs s_homes_by) (defBody s_homes_by) (defScope s_homes_by) .none kV15 dc15 pm15 an15 cd15 ct15), sl15⟩) (c15 : PySem.W.codeIn K cd15 "homes_by" = true) (k15 : PySem.W.keepIn K (.ref f15) = true)
    {od16 an16 : Option Addr} {sl16 : Array (Option Value)} {f16 : Addr} {oc16 kV16 dc16 pm16 cd16 ct16 : Value}
    (a16 : PySem.W.nsIn K mainGlobals "_law_mix" = some (some (.ref f16))) (l16 : K.lookup f16 = some ⟨oc16, od16, .func (PySem.W.fnOf "_law_mix" "_law_mix" (defArgs s__law_mix) (defBody s__law_mix) (defScope s__law_mix) .none kV16 dc16 pm16 an16 cd16 ct16), sl16⟩) (c16 : PySem.W.codeIn K cd16 "_law_mix" = true) (k16 : PySem.W.keepIn K (.ref f16) = true)
    {od17 an17 : Option Addr} {sl17 : Array (Option Value)} {f17 : Addr} {oc17 kV17 dc17 pm17 cd17 ct17 : Value}
    (a17 : PySem.W.nsIn K mainGlobals "_law_is_tree" = some (some (.ref f17))) (l17 : K.lookup f17 = some ⟨oc17, od17, .func (PySem.W.fnOf "_law_is_tree" "_law_is_tree" (defArgs s__law_is_tree) (defBody s__law_is_tree) (defScope s__law_is_tree) .none kV17 dc17 pm17 an17 cd17 ct17), sl17⟩) (c17 : PySem.W.codeIn K cd17 "_law_is_tree" = true) (k17 : PySem.W.keepIn K (.ref f17) = true)
    {od18 an18 : Option Addr} {sl18 : Array (Option Value)} {f18 : Addr} {oc18 kV18 dc18 pm18 cd18 ct18 : Value}
    (a18 : PySem.W.nsIn K mainGlobals "_law_worths" = some (some (.ref f18))) (l18 : K.lookup f18 = some ⟨oc18, od18, .func (PySem.W.fnOf "_law_worths" "_law_worths" (defArgs s__law_worths) (defBody s__law_worths) (defScope s__law_worths) .none kV18 dc18 pm18 an18 cd18 ct18), sl18⟩) (c18 : PySem.W.codeIn K cd18 "_law_worths" = true) (k18 : PySem.W.keepIn K (.ref f18) = true)
    {od19 an19 : Option Addr} {sl19 : Array (Option Value)} {f19 : Addr} {oc19 kV19 dc19 pm19 cd19 ct19 : Value}
    (a19 : PySem.W.nsIn K mainGlobals "_law_greedy" = some (some (.ref f19))) (l19 : K.lookup f19 = some ⟨oc19, od19, .func (PySem.W.fnOf "_law_greedy" "_law_greedy" (defArgs s__law_greedy) (defBody s__law_greedy) (defScope s__law_greedy) .none kV19 dc19 pm19 an19 cd19 ct19), sl19⟩) (c19 : PySem.W.codeIn K cd19 "_law_greedy" = true) (k19 : PySem.W.keepIn K (.ref f19) = true)
    {od20 an20 : Option Addr} {sl20 : Array (Option Value)} {f20 : Addr} {oc20 kV20 dc20 pm20 cd20 ct20 : Value}
    (a20 : PySem.W.nsIn K mainGlobals "_law_bent" = some (some (.ref f20))) (l20 : K.lookup f20 = some ⟨oc20, od20, .func (PySem.W.fnOf "_law_bent" "_law_bent" (defArgs s__law_bent) (defBody s__law_bent) (defScope s__law_bent) .none kV20 dc20 pm20 an20 cd20 ct20), sl20⟩) (c20 : PySem.W.codeIn K cd20 "_law_bent" = true) (k20 : PySem.W.keepIn K (.ref f20) = true)
    {od21 an21 : Option Addr} {sl21 : Array (Option Value)} {f21 : Addr} {oc21 kV21 dc21 pm21 cd21 ct21 : Value}
    (a21 : PySem.W.nsIn K mainGlobals "hangs_together" = some (some (.ref f21))) (l21 : K.lookup f21 = some ⟨oc21, od21, .func (PySem.W.fnOf "hangs_together" "hangs_together" (defArgs s_hangs_together) (defBody s_hangs_together) (defScope s_hangs_together) .none kV21 dc21 pm21 an21 cd21 ct21), sl21⟩) (c21 : PySem.W.codeIn K cd21 "hangs_together" = true) (k21 : PySem.W.keepIn K (.ref f21) = true)
    {od22 an22 : Option Addr} {sl22 : Array (Option Value)} {f22 : Addr} {oc22 kV22 dc22 pm22 cd22 ct22 : Value}
    (a22 : PySem.W.nsIn K mainGlobals "is_line_set" = some (some (.ref f22))) (l22 : K.lookup f22 = some ⟨oc22, od22, .func (PySem.W.fnOf "is_line_set" "is_line_set" (defArgs s_is_line_set) (defBody s_is_line_set) (defScope s_is_line_set) .none kV22 dc22 pm22 an22 cd22 ct22), sl22⟩) (c22 : PySem.W.codeIn K cd22 "is_line_set" = true) (k22 : PySem.W.keepIn K (.ref f22) = true)
    {od23 an23 : Option Addr} {sl23 : Array (Option Value)} {f23 : Addr} {oc23 kV23 dc23 pm23 cd23 ct23 : Value}
    (a23 : PySem.W.nsIn K mainGlobals "grown_by" = some (some (.ref f23))) (l23 : K.lookup f23 = some ⟨oc23, od23, .func (PySem.W.fnOf "grown_by" "grown_by" (defArgs s_grown_by) (defBody s_grown_by) (defScope s_grown_by) .none kV23 dc23 pm23 an23 cd23 ct23), sl23⟩) (c23 : PySem.W.codeIn K cd23 "grown_by" = true) (k23 : PySem.W.keepIn K (.ref f23) = true)
    {od24 an24 : Option Addr} {sl24 : Array (Option Value)} {f24 : Addr} {oc24 kV24 dc24 pm24 cd24 ct24 : Value}
    (a24 : PySem.W.nsIn K mainGlobals "_law_net" = some (some (.ref f24))) (l24 : K.lookup f24 = some ⟨oc24, od24, .func (PySem.W.fnOf "_law_net" "_law_net" (defArgs s__law_net) (defBody s__law_net) (defScope s__law_net) .none kV24 dc24 pm24 an24 cd24 ct24), sl24⟩) (c24 : PySem.W.codeIn K cd24 "_law_net" = true) (k24 : PySem.W.keepIn K (.ref f24) = true)
    {od25 an25 : Option Addr} {sl25 : Array (Option Value)} {f25 : Addr} {oc25 kV25 dc25 pm25 cd25 ct25 : Value}
    (a25 : PySem.W.nsIn K mainGlobals "_law_is_state" = some (some (.ref f25))) (l25 : K.lookup f25 = some ⟨oc25, od25, .func (PySem.W.fnOf "_law_is_state" "_law_is_state" (defArgs s__law_is_state) (defBody s__law_is_state) (defScope s__law_is_state) .none kV25 dc25 pm25 an25 cd25 ct25), sl25⟩) (c25 : PySem.W.codeIn K cd25 "_law_is_state" = true) (k25 : PySem.W.keepIn K (.ref f25) = true)
    {od26 an26 : Option Addr} {sl26 : Array (Option Value)} {f26 : Addr} {oc26 kV26 dc26 pm26 cd26 ct26 : Value}
    (a26 : PySem.W.nsIn K mainGlobals "need_together" = some (some (.ref f26))) (l26 : K.lookup f26 = some ⟨oc26, od26, .func (PySem.W.fnOf "need_together" "need_together" (defArgs s_need_together) (defBody s_need_together) (defScope s_need_together) .none kV26 dc26 pm26 an26 cd26 ct26), sl26⟩) (c26 : PySem.W.codeIn K cd26 "need_together" = true) (k26 : PySem.W.keepIn K (.ref f26) = true)
    {od27 an27 : Option Addr} {sl27 : Array (Option Value)} {f27 : Addr} {oc27 kV27 dc27 pm27 cd27 ct27 : Value}
    (a27 : PySem.W.nsIn K mainGlobals "is_tree" = some (some (.ref f27))) (l27 : K.lookup f27 = some ⟨oc27, od27, .func (PySem.W.fnOf "is_tree" "is_tree" (defArgs s_is_tree) (defBody s_is_tree) (defScope s_is_tree) .none kV27 dc27 pm27 an27 cd27 ct27), sl27⟩) (c27 : PySem.W.codeIn K cd27 "is_tree" = true) (k27 : PySem.W.keepIn K (.ref f27) = true)
    {od28 an28 : Option Addr} {sl28 : Array (Option Value)} {f28 : Addr} {oc28 kV28 dc28 pm28 cd28 ct28 : Value}
    (a28 : PySem.W.nsIn K mainGlobals "best_by" = some (some (.ref f28))) (l28 : K.lookup f28 = some ⟨oc28, od28, .func (PySem.W.fnOf "best_by" "best_by" (defArgs s_best_by) (defBody s_best_by) (defScope s_best_by) .none kV28 dc28 pm28 an28 cd28 ct28), sl28⟩) (c28 : PySem.W.codeIn K cd28 "best_by" = true) (k28 : PySem.W.keepIn K (.ref f28) = true)
    {od29 an29 : Option Addr} {sl29 : Array (Option Value)} {f29 : Addr} {oc29 kV29 dc29 pm29 cd29 ct29 : Value}
    (a29 : PySem.W.nsIn K mainGlobals "_law_holds" = some (some (.ref f29))) (l29 : K.lookup f29 = some ⟨oc29, od29, .func (PySem.W.fnOf "_law_holds" "_law_holds" (defArgs s__law_holds) (defBody s__law_holds) (defScope s__law_holds) .none kV29 dc29 pm29 an29 cd29 ct29), sl29⟩) (c29 : PySem.W.codeIn K cd29 "_law_holds" = true) (k29 : PySem.W.keepIn K (.ref f29) = true)
    {od30 an30 : Option Addr} {sl30 : Array (Option Value)} {f30 : Addr} {oc30 kV30 dc30 pm30 cd30 ct30 : Value}
    (a30 : PySem.W.nsIn K mainGlobals "best_tree" = some (some (.ref f30))) (l30 : K.lookup f30 = some ⟨oc30, od30, .func (PySem.W.fnOf "best_tree" "best_tree" (defArgs s_best_tree) (defBody s_best_tree) (defScope s_best_tree) .none kV30 dc30 pm30 an30 cd30 ct30), sl30⟩) (c30 : PySem.W.codeIn K cd30 "best_tree" = true) (k30 : PySem.W.keepIn K (.ref f30) = true)
    {od31 an31 : Option Addr} {sl31 : Array (Option Value)} {f31 : Addr} {oc31 kV31 dc31 pm31 cd31 ct31 : Value}
    (a31 : PySem.W.nsIn K mainGlobals "is_best" = some (some (.ref f31))) (l31 : K.lookup f31 = some ⟨oc31, od31, .func (PySem.W.fnOf "is_best" "is_best" (defArgs s_is_best) (defBody s_is_best) (defScope s_is_best) .none kV31 dc31 pm31 an31 cd31 ct31), sl31⟩) (c31 : PySem.W.codeIn K cd31 "is_best" = true) (k31 : PySem.W.keepIn K (.ref f31) = true)
    {od32 an32 : Option Addr} {sl32 : Array (Option Value)} {f32 : Addr} {oc32 kV32 dc32 pm32 cd32 ct32 : Value}
    (a32 : PySem.W.nsIn K mainGlobals "_law_small" = some (some (.ref f32))) (l32 : K.lookup f32 = some ⟨oc32, od32, .func (PySem.W.fnOf "_law_small" "_law_small" (defArgs s__law_small) (defBody s__law_small) (defScope s__law_small) .none kV32 dc32 pm32 an32 cd32 ct32), sl32⟩) (c32 : PySem.W.codeIn K cd32 "_law_small" = true) (k32 : PySem.W.keepIn K (.ref f32) = true)
    {od33 an33 : Option Addr} {sl33 : Array (Option Value)} {f33 : Addr} {oc33 kV33 dc33 pm33 cd33 ct33 : Value}
    (a33 : PySem.W.nsIn K mainGlobals "_law_wide" = some (some (.ref f33))) (l33 : K.lookup f33 = some ⟨oc33, od33, .func (PySem.W.fnOf "_law_wide" "_law_wide" (defArgs s__law_wide) (defBody s__law_wide) (defScope s__law_wide) .none kV33 dc33 pm33 an33 cd33 ct33), sl33⟩) (c33 : PySem.W.codeIn K cd33 "_law_wide" = true) (k33 : PySem.W.keepIn K (.ref f33) = true)
    {od34 an34 : Option Addr} {sl34 : Array (Option Value)} {f34 : Addr} {oc34 kV34 dc34 pm34 cd34 ct34 : Value}
    (a34 : PySem.W.nsIn K mainGlobals "_law_apart" = some (some (.ref f34))) (l34 : K.lookup f34 = some ⟨oc34, od34, .func (PySem.W.fnOf "_law_apart" "_law_apart" (defArgs s__law_apart) (defBody s__law_apart) (defScope s__law_apart) .none kV34 dc34 pm34 an34 cd34 ct34), sl34⟩) (c34 : PySem.W.codeIn K cd34 "_law_apart" = true) (k34 : PySem.W.keepIn K (.ref f34) = true)
    {od35 an35 : Option Addr} {sl35 : Array (Option Value)} {f35 : Addr} {oc35 kV35 dc35 pm35 cd35 ct35 : Value}
    (a35 : PySem.W.nsIn K mainGlobals "law" = some (some (.ref f35))) (l35 : K.lookup f35 = some ⟨oc35, od35, .func (PySem.W.fnOf "law" "law" (defArgs s_law) (defBody s_law) (defScope s_law) .none kV35 dc35 pm35 an35 cd35 ct35), sl35⟩) (c35 : PySem.W.codeIn K cd35 "law" = true) (k35 : PySem.W.keepIn K (.ref f35) = true)
    (n1 : PySem.W.nsIn K mainGlobals "abs" = some none)
    (n2 : PySem.W.nsIn K mainGlobals "all" = some none)
    (n3 : PySem.W.nsIn K mainGlobals "bool" = some none)
    (n4 : PySem.W.nsIn K mainGlobals "enumerate" = some none)
    (n5 : PySem.W.nsIn K mainGlobals "int" = some none)
    (n6 : PySem.W.nsIn K mainGlobals "isinstance" = some none)
    (n7 : PySem.W.nsIn K mainGlobals "len" = some none)
    (n8 : PySem.W.nsIn K mainGlobals "list" = some none)
    (n9 : PySem.W.nsIn K mainGlobals "max" = some none)
    (n10 : PySem.W.nsIn K mainGlobals "min" = some none)
    (n11 : PySem.W.nsIn K mainGlobals "range" = some none)
    (n12 : PySem.W.nsIn K mainGlobals "set" = some none)
    (n13 : PySem.W.nsIn K mainGlobals "sorted" = some none)
    (n14 : PySem.W.nsIn K mainGlobals "str" = some none)
    (n15 : PySem.W.nsIn K mainGlobals "sum" = some none)
    (n16 : PySem.W.nsIn K mainGlobals "super" = some none)
    (n17 : PySem.W.nsIn K mainGlobals "tuple" = some none)
    {C_BadStep : Addr} (ag_BadStep : PySem.W.nsIn K mainGlobals "BadStep" = some (some (.ref C_BadStep)))
    {C_NetError : Addr} (ag_NetError : PySem.W.nsIn K mainGlobals "NetError" = some (some (.ref C_NetError)))
    {f_BadStep cc_BadStep c_BadStep : Addr} {doc_BadStep pm_BadStep ctv_BadStep oc_BadStep occ_BadStep coc_BadStep : Value} {od_BadStep odc_BadStep cod_BadStep : Option Addr} {osl_BadStep slc_BadStep cosl_BadStep : Array (Option Value)} {cvs_BadStep : Array Value} {file_BadStep : Str} {tf_BadStep : Tok} {q_BadStep : Str}
    (ii_BadStep : PySem.W.findIn K (.ref C_BadStep) "__init__" = some (some (.ref f_BadStep))) (ti_BadStep : PySem.W.typeIn K (.ref f_BadStep) = some (.type "function")) (li_BadStep : K.lookup f_BadStep = some ⟨oc_BadStep, od_BadStep, .func (PySem.W.fnX "__init__" q_BadStep (defArgs si_BadStep) (defBody si_BadStep) (defScope si_BadStep) [(("__class__" : Str), cc_BadStep)] .none .none doc_BadStep pm_BadStep none (.ref c_BadStep) ctv_BadStep), osl_BadStep⟩)
    (lc_BadStep : K.lookup cc_BadStep = some ⟨occ_BadStep, odc_BadStep, .cell (some (.ref C_BadStep)), slc_BadStep⟩) (ci_BadStep : PySem.W.codeIn K (.ref c_BadStep) q_BadStep = true) (ld_BadStep : K.lookup c_BadStep = some ⟨coc_BadStep, cod_BadStep, .fields cvs_BadStep, cosl_BadStep⟩) (hv_BadStep : cvs_BadStep[2]? = some (.str file_BadStep tf_BadStep)) (hf_BadStep : ((P.main.file : Str) == file_BadStep) = true)
    (eb_BadStep : errB K C_BadStep = true) (xf_BadStep : xfB K C_BadStep = true)
    (fn_BadStep_word : PySem.W.findIn K (.ref C_BadStep) "word" = some none)
    (xe_BadStep : excB K C_BadStep = true)
    (kt_BadStep_BadStep : PySem.W.kitOne K (.ref C_BadStep) (.ref C_BadStep) = some true)
    (xm_BadStep_NetError : PySem.W.exmOne K (.ref C_BadStep) (.ref C_NetError) = some true)
    (p_super : (P.main.scope.names.lookup ("super" : Str)).isSome = false)
    : ∃ fd : FuncData, (∀ (s : Shared) (v : Value), BindsTo s fd ⟨[v], []⟩ [("script", v)]) ∧ ∀ base : Heap, K.In base → base.Ns mainGlobals mg → FnOk P w K mg base (L2.CX P w) 8 fa fd ["script"] (spM ⟨K, w⟩ 1 (@m_law (Errs.mk C_BadStep C_NetError))) := by
  have e := hfa.symm.trans (PySem.W.mg_of X G a35)
  cases e
  letI : Errs := Errs.mk C_BadStep C_NetError
  let T : Txt P K mg := { f_is_integer := f1, d_is_integer := _, g_is_integer := PySem.W.mg_of X G a1, F_is_integer := fun_mk (st := s_is_integer) l1 c1 k1, b_is_integer := (fun_mk (st := s_is_integer) l1 c1 k1).binds (ps := ["thing"]) (fun _ _ _ _ _ _ us hl => match us, hl with | [_], _ => rfl), f_tuple_of := f2, d_tuple_of := _, g_tuple_of := PySem.W.mg_of X G a2, F_tuple_of := fun_mk (st := s_tuple_of) l2 c2 k2, b_tuple_of := (fun_mk (st := s_tuple_of) l2 c2 k2).binds (ps := ["thing", "many"]) (fun _ _ _ _ _ _ us hl => match us, hl with | [_, _], _ => rfl), f_ends_of := f3, d_ends_of := _, g_ends_of := PySem.W.mg_of X G a3, F_ends_of := fun_mk (st := s_ends_of) l3 c3 k3, b_ends_of := (fun_mk (st := s_ends_of) l3 c3 k3).binds (ps := ["net", "line"]) (fun _ _ _ _ _ _ us hl => match us, hl with | [_, _], _ => rfl), f_merged := f4, d_merged := _, g_merged := PySem.W.mg_of X G a4, F_merged := fun_mk (st := s_merged) l4 c4 k4, b_merged := (fun_mk (st := s_merged) l4 c4 k4).binds (ps := ["homes", "one", "other"]) (fun _ _ _ _ _ _ us hl => match us, hl with | [_, _, _], _ => rfl), f_all_lines := f5, d_all_lines := _, g_all_lines := PySem.W.mg_of X G a5, F_all_lines := fun_mk (st := s_all_lines) l5 c5 k5, b_all_lines := (fun_mk (st := s_all_lines) l5 c5 k5).binds (ps := ["net"]) (fun _ _ _ _ _ _ us hl => match us, hl with | [_], _ => rfl), f_worth_of := f6, d_worth_of := _, g_worth_of := PySem.W.mg_of X G a6, F_worth_of := fun_mk (st := s_worth_of) l6 c6 k6, b_worth_of := (fun_mk (st := s_worth_of) l6 c6 k6).binds (ps := ["worths", "tree"]) (fun _ _ _ _ _ _ us hl => match us, hl with | [_, _], _ => rfl), f__law_kettle := f7, d__law_kettle := _, g__law_kettle := PySem.W.mg_of X G a7, F__law_kettle := fun_mk (st := s__law_kettle) l7 c7 k7, b__law_kettle := (fun_mk (st := s__law_kettle) l7 c7 k7).binds (ps := ["script"]) (fun _ _ _ _ _ _ us hl => match us, hl with | [_], _ => rfl), f__law_pour := f8, d__law_pour := _, g__law_pour := PySem.W.mg_of X G a8, F__law_pour := fun_mk (st := s__law_pour) l8 c8 k8, b__law_pour := (fun_mk (st := s__law_pour) l8 c8 k8).binds (ps := ["kettle", "many", "spout"]) (fun _ _ _ _ _ _ us hl => match us, hl with | [_, _, _], _ => rfl), f__law_same := f9, d__law_same := _, g__law_same := PySem.W.mg_of X G a9, F__law_same := fun_mk (st := s__law_same) l9 c9 k9, b__law_same := (fun_mk (st := s__law_same) l9 c9 k9).binds (ps := ["told", "due"]) (fun _ _ _ _ _ _ us hl => match us, hl with | [_, _], _ => rfl), f__law_groups := f10, d__law_groups := _, g__law_groups := PySem.W.mg_of X G a10, F__law_groups := fun_mk (st := s__law_groups) l10 c10 k10, b__law_groups := (fun_mk (st := s__law_groups) l10 c10 k10).binds (ps := ["net", "lines"]) (fun _ _ _ _ _ _ us hl => match us, hl with | [_, _], _ => rfl), f__law_forest := f11, d__law_forest := _, g__law_forest := PySem.W.mg_of X G a11, F__law_forest := fun_mk (st := s__law_forest) l11 c11 k11, b__law_forest := (fun_mk (st := s__law_forest) l11 c11 k11).binds (ps := ["net", "lines"]) (fun _ _ _ _ _ _ us hl => match us, hl with | [_, _], _ => rfl), f__law_trees := f12, d__law_trees := _, g__law_trees := PySem.W.mg_of X G a12, F__law_trees := fun_mk (st := s__law_trees) l12 c12 k12, b__law_trees := (fun_mk (st := s__law_trees) l12 c12 k12).binds (ps := ["net"]) (fun _ _ _ _ _ _ us hl => match us, hl with | [_], _ => rfl), f__law_worth := f13, d__law_worth := _, g__law_worth := PySem.W.mg_of X G a13, F__law_worth := fun_mk (st := s__law_worth) l13 c13 k13, b__law_worth := (fun_mk (st := s__law_worth) l13 c13 k13).binds (ps := ["worths", "tree"]) (fun _ _ _ _ _ _ us hl => match us, hl with | [_, _], _ => rfl), f_integer_within := f14, d_integer_within := _, g_integer_within := PySem.W.mg_of X G a14, F_integer_within := fun_mk (st := s_integer_within) l14 c14 k14, b_integer_within := (fun_mk (st := s_integer_within) l14 c14 k14).binds (ps := ["thing", "low", "high"]) (fun _ _ _ _ _ _ us hl => match us, hl with | [_, _, _], _ => rfl), f_homes_by := f15, d_homes_by := _, g_homes_by := PySem.W.mg_of X G a15, F_homes_by := fun_mk (st := s_homes_by) l15 c15 k15, b_homes_by := (fun_mk (st := s_homes_by) l15 c15 k15).binds (ps := ["net", "lines"]) (fun _ _ _ _ _ _ us hl => match us, hl with | [_, _], _ => rfl), f__law_mix := f16, d__law_mix := _, g__law_mix := PySem.W.mg_of X G a16, F__law_mix := fun_mk (st := s__law_mix) l16 c16 k16, b__law_mix := (fun_mk (st := s__law_mix) l16 c16 k16).binds (ps := ["kettle", "things"]) (fun _ _ _ _ _ _ us hl => match us, hl with | [_, _], _ => rfl), f__law_is_tree := f17, d__law_is_tree := _, g__law_is_tree := PySem.W.mg_of X G a17, F__law_is_tree := fun_mk (st := s__law_is_tree) l17 c17 k17, b__law_is_tree := (fun_mk (st := s__law_is_tree) l17 c17 k17).binds (ps := ["net", "lines"]) (fun _ _ _ _ _ _ us hl => match us, hl with | [_, _], _ => rfl), f__law_worths := f18, d__law_worths := _, g__law_worths := PySem.W.mg_of X G a18, F__law_worths := fun_mk (st := s__law_worths) l18 c18 k18, b__law_worths := (fun_mk (st := s__law_worths) l18 c18 k18).binds (ps := ["kettle", "net"]) (fun _ _ _ _ _ _ us hl => match us, hl with | [_, _], _ => rfl), f__law_greedy := f19, d__law_greedy := _, g__law_greedy := PySem.W.mg_of X G a19, F__law_greedy := fun_mk (st := s__law_greedy) l19 c19 k19, b__law_greedy := (fun_mk (st := s__law_greedy) l19 c19 k19).binds (ps := ["net", "worths"]) (fun _ _ _ _ _ _ us hl => match us, hl with | [_, _], _ => rfl), f__law_bent := f20, d__law_bent := _, g__law_bent := PySem.W.mg_of X G a20, F__law_bent := fun_mk (st := s__law_bent) l20 c20 k20, b__law_bent := (fun_mk (st := s__law_bent) l20 c20 k20).binds (ps := ["kettle", "net", "right"]) (fun _ _ _ _ _ _ us hl => match us, hl with | [_, _, _], _ => rfl), f_hangs_together := f21, d_hangs_together := _, g_hangs_together := PySem.W.mg_of X G a21, F_hangs_together := fun_mk (st := s_hangs_together) l21 c21 k21, b_hangs_together := (fun_mk (st := s_hangs_together) l21 c21 k21).binds (ps := ["net", "lines"]) (fun _ _ _ _ _ _ us hl => match us, hl with | [_, _], _ => rfl), f_is_line_set := f22, d_is_line_set := _, g_is_line_set := PySem.W.mg_of X G a22, F_is_line_set := fun_mk (st := s_is_line_set) l22 c22 k22, b_is_line_set := (fun_mk (st := s_is_line_set) l22 c22 k22).binds (ps := ["net", "thing"]) (fun _ _ _ _ _ _ us hl => match us, hl with | [_, _], _ => rfl), f_grown_by := f23, d_grown_by := _, g_grown_by := PySem.W.mg_of X G a23, F_grown_by := fun_mk (st := s_grown_by) l23 c23 k23, b_grown_by := (fun_mk (st := s_grown_by) l23 c23 k23).binds (ps := ["net", "lines"]) (fun _ _ _ _ _ _ us hl => match us, hl with | [_, _], _ => rfl), f__law_net := f24, d__law_net := _, g__law_net := PySem.W.mg_of X G a24, F__law_net := fun_mk (st := s__law_net) l24 c24 k24, b__law_net := (fun_mk (st := s__law_net) l24 c24 k24).binds (ps := ["kettle", "many", "most"]) (fun _ _ _ _ _ _ us hl => match us, hl with | [_, _, _], _ => rfl), f__law_is_state := f25, d__law_is_state := _, g__law_is_state := PySem.W.mg_of X G a25, F__law_is_state := fun_mk (st := s__law_is_state) l25 c25 k25, b__law_is_state := (fun_mk (st := s__law_is_state) l25 c25 k25).binds (ps := ["net", "thing"]) (fun _ _ _ _ _ _ us hl => match us, hl with | [_, _], _ => rfl), f_need_together := f26, d_need_together := _, g_need_together := PySem.W.mg_of X G a26, F_need_together := fun_mk (st := s_need_together) l26 c26 k26, b_need_together := (fun_mk (st := s_need_together) l26 c26 k26).binds (ps := ["net"]) (fun _ _ _ _ _ _ us hl => match us, hl with | [_], _ => rfl), f_is_tree := f27, d_is_tree := _, g_is_tree := PySem.W.mg_of X G a27, F_is_tree := fun_mk (st := s_is_tree) l27 c27 k27, b_is_tree := (fun_mk (st := s_is_tree) l27 c27 k27).binds (ps := ["net", "thing"]) (fun _ _ _ _ _ _ us hl => match us, hl with | [_, _], _ => rfl), f_best_by := f28, d_best_by := _, g_best_by := PySem.W.mg_of X G a28, F_best_by := fun_mk (st := s_best_by) l28 c28 k28, b_best_by := (fun_mk (st := s_best_by) l28 c28 k28).binds (ps := ["net", "worths"]) (fun _ _ _ _ _ _ us hl => match us, hl with | [_, _], _ => rfl), f__law_holds := f29, d__law_holds := _, g__law_holds := PySem.W.mg_of X G a29, F__law_holds := fun_mk (st := s__law_holds) l29 c29 k29, b__law_holds := (fun_mk (st := s__law_holds) l29 c29 k29).binds (ps := ["net", "worths", "most", "thing"]) (fun _ _ _ _ _ _ us hl => match us, hl with | [_, _, _, _], _ => rfl), f_best_tree := f30, d_best_tree := _, g_best_tree := PySem.W.mg_of X G a30, F_best_tree := fun_mk (st := s_best_tree) l30 c30 k30, b_best_tree := (fun_mk (st := s_best_tree) l30 c30 k30).binds (ps := ["net", "worths"]) (fun _ _ _ _ _ _ us hl => match us, hl with | [_, _], _ => rfl), f_is_best := f31, d_is_best := _, g_is_best := PySem.W.mg_of X G a31, F_is_best := fun_mk (st := s_is_best) l31 c31 k31, b_is_best := (fun_mk (st := s_is_best) l31 c31 k31).binds (ps := ["net", "worths", "thing"]) (fun _ _ _ _ _ _ us hl => match us, hl with | [_, _, _], _ => rfl), f__law_small := f32, d__law_small := _, g__law_small := PySem.W.mg_of X G a32, F__law_small := fun_mk (st := s__law_small) l32 c32 k32, b__law_small := (fun_mk (st := s__law_small) l32 c32 k32).binds (ps := ["kettle", "net"]) (fun _ _ _ _ _ _ us hl => match us, hl with | [_, _], _ => rfl), f__law_wide := f33, d__law_wide := _, g__law_wide := PySem.W.mg_of X G a33, F__law_wide := fun_mk (st := s__law_wide) l33 c33 k33, b__law_wide := (fun_mk (st := s__law_wide) l33 c33 k33).binds (ps := ["kettle", "net"]) (fun _ _ _ _ _ _ us hl => match us, hl with | [_, _], _ => rfl), f__law_apart := f34, d__law_apart := _, g__law_apart := PySem.W.mg_of X G a34, F__law_apart := fun_mk (st := s__law_apart) l34 c34 k34, b__law_apart := (fun_mk (st := s__law_apart) l34 c34 k34).binds (ps := ["kettle", "which"]) (fun _ _ _ _ _ _ us hl => match us, hl with | [_, _], _ => rfl), f_law := fa, d_law := _, g_law := PySem.W.mg_of X G a35, F_law := fun_mk (st := s_law) l35 c35 k35, b_law := (fun_mk (st := s_law) l35 c35 k35).binds (ps := ["script"]) (fun _ _ _ _ _ _ us hl => match us, hl with | [_], _ => rfl), n_abs := PySem.W.mg_none_of X G n1, n_all := PySem.W.mg_none_of X G n2, n_bool := PySem.W.mg_none_of X G n3, n_enumerate := PySem.W.mg_none_of X G n4, n_int := PySem.W.mg_none_of X G n5, n_isinstance := PySem.W.mg_none_of X G n6, n_len := PySem.W.mg_none_of X G n7, n_list := PySem.W.mg_none_of X G n8, n_max := PySem.W.mg_none_of X G n9, n_min := PySem.W.mg_none_of X G n10, n_range := PySem.W.mg_none_of X G n11, n_set := PySem.W.mg_none_of X G n12, n_sorted := PySem.W.mg_none_of X G n13, n_str := PySem.W.mg_none_of X G n14, n_sum := PySem.W.mg_none_of X G n15, n_super := PySem.W.mg_none_of X G n16, n_tuple := PySem.W.mg_none_of X G n17, eg_BadStep := PySem.W.mg_of X G ag_BadStep, eg_NetError := PySem.W.mg_of X G ag_NetError, ec_BadStep := errB_ok eb_BadStep, xf_BadStep := xfB_ok xf_BadStep, ei_BadStep := ⟨⟨f_BadStep, cc_BadStep, c_BadStep, doc_BadStep, pm_BadStep, ctv_BadStep, oc_BadStep, occ_BadStep, coc_BadStep, od_BadStep, odc_BadStep, cod_BadStep, osl_BadStep, slc_BadStep, cosl_BadStep, cvs_BadStep, file_BadStep, tf_BadStep, q_BadStep, ii_BadStep, ti_BadStep, li_BadStep, lc_BadStep, ci_BadStep, ld_BadStep, hv_BadStep, hf_BadStep⟩⟩, fn_BadStep_word := fn_BadStep_word, xe_BadStep := excB_ok xe_BadStep, kt_BadStep_BadStep := kt_BadStep_BadStep, xm_BadStep_NetError := xm_BadStep_NetError, p_super := p_super }
  exact ⟨PySem.W.fnOf "law" "law" (defArgs s_law) (defBody s_law) (defScope s_law) .none kV35 dc35 pm35 an35 cd35 ct35, fun s v => .of_eq rfl, fun base _ _ => (ok_law (base := base) T).ok⟩
end
end G12
open PySem PySem.W PyProof.Rows
theorem PySem.Challenge.cw_keptasatree_k12_best_tree_holds : PySem.Challenge.rw_keptasatree_k12_best_tree.Holds := by
  w_on; o_law; k_head; (case hw => w_witness2)
  k_fill
  refine L2.walk_of (l := PySem.Challenge.rw_keptasatree_k12_best_tree) (n := 63) (k := 8) (x := "script") (CX := fun w => L2.CX PySem.Challenge.rw_keptasatree_k12_best_tree.prog w) (sp := (fun (er : G12.Errs) (kf : World → PySem.W.Frag) (w : World) => AB.spM ⟨kf w, w⟩ 1 (@G12.m_law er)) ?er _) rfl (by decide) rfl ⟨rfl, by decide, by decide⟩ (fun w h Y => PySem.W.kIn_of Y) ?F (fun w H a ns hl _ hS => AB.law_sp hS (@G12.law_ok ?er ns hl)) (fun w H s e s' z => AB.no_exc z)
  case F =>
    intro w mg fa h KX G hmg
    refine' G12.all_mk KX G hmg ?a1 ?l1 ?c1 ?k1 ?a2 ?l2 ?c2 ?k2 ?a3 ?l3 ?c3 ?k3 ?a4 ?l4 ?c4 ?k4 ?a5 ?l5 ?c5 ?k5 ?a6 ?l6 ?c6 ?k6 ?a7 ?l7 ?c7 ?k7 ?a8 ?l8 ?c8 ?k8 ?a9 ?l9 ?c9 ?k9 ?a10 ?l10 ?c10 ?k10 ?a11 ?l11 ?c11 ?k11 ?a12 ?l12 ?c12 ?k12 ?a13 ?l13 ?c13 ?k13 ?a14 ?l14 ?c14 ?k14 ?a15 ?l15 ?c15 ?k15 ?a16 ?l16 ?c16 ?k16 ?a17 ?l17 ?c17 ?k17 ?a18 ?l18 ?c18 ?k18 ?a19 ?l19 ?c19 ?k19 ?a20 ?l20 ?c20 ?k20 ?a21 ?l21 ?c21 ?k21 ?a22 ?l22 ?c22 ?k22 ?a23 ?l23 ?c23 ?k23 ?a24 ?l24 ?c24 ?k24 ?a25 ?l25 ?c25 ?k25 ?a26 ?l26 ?c26 ?k26 ?a27 ?l27 ?c27 ?k27 ?a28 ?l28 ?c28 ?k28 ?a29 ?l29 ?c29 ?k29 ?a30 ?l30 ?c30 ?k30 ?a31 ?l31 ?c31 ?k31 ?a32 ?l32 ?c32 ?k32 ?a33 ?l33 ?c33 ?k33 ?a34 ?l34 ?c34 ?k34 ?a35 ?l35 ?c35 ?k35 ?n1 ?n2 ?n3 ?n4 ?n5 ?n6 ?n7 ?n8 ?n9 ?n10 ?n11 ?n12 ?n13 ?n14 ?n15 ?n16 ?n17 ?ag_BadStep ?ag_NetError ?ii_BadStep ?ti_BadStep ?li_BadStep ?lc_BadStep ?ci_BadStep ?ld_BadStep ?hv_BadStep ?hf_BadStep ?eb_BadStep ?xf_BadStep ?fn_BadStep_word ?xe_BadStep ?kt_BadStep_BadStep ?xm_BadStep_NetError ?p_super
    (case a1 => k_is)
    (case l1 => k_is)
    (case c1 => k_is)
    (case k1 => k_is)
    (case a2 => k_is)
    (case l2 => k_is)
    (case c2 => k_is)
    (case k2 => k_is)
    (case a3 => k_is)
    (case l3 => k_is)
    (case c3 => k_is)
    (case k3 => k_is)
    (case a4 => k_is)
    (case l4 => k_is)
    (case c4 => k_is)
    (case k4 => k_is)
    (case a5 => k_is)
    (case l5 => k_is)
    (case c5 => k_is)
    (case k5 => k_is)
    (case a6 => k_is)
    (case l6 => k_is)
    (case c6 => k_is)
    (case k6 => k_is)
    (case a7 => k_is)
    (case l7 => k_is)
    (case c7 => k_is)
    (case k7 => k_is)
    (case a8 => k_is)
    (case l8 => k_is)
    (case c8 => k_is)
    (case k8 => k_is)
    (case a9 => k_is)
    (case l9 => k_is)
    (case c9 => k_is)
    (case k9 => k_is)
    (case a10 => k_is)
    (case l10 => k_is)
    (case c10 => k_is)
    (case k10 => k_is)
    (case a11 => k_is)
    (case l11 => k_is)
    (case c11 => k_is)
    (case k11 => k_is)
    (case a12 => k_is)
    (case l12 => k_is)
    (case c12 => k_is)
    (case k12 => k_is)
    (case a13 => k_is)
    (case l13 => k_is)
    (case c13 => k_is)
    (case k13 => k_is)
    (case a14 => k_is)
    (case l14 => k_is)
    (case c14 => k_is)
    (case k14 => k_is)
    (case a15 => k_is)
    (case l15 => k_is)
    (case c15 => k_is)
    (case k15 => k_is)
    (case a16 => k_is)
    (case l16 => k_is)
    (case c16 => k_is)
    (case k16 => k_is)
    (case a17 => k_is)
    (case l17 => k_is)
    (case c17 => k_is)
    (case k17 => k_is)
    (case a18 => k_is)
    (case l18 => k_is)
    (case c18 => k_is)
    (case k18 => k_is)
    (case a19 => k_is)
    (case l19 => k_is)
    (case c19 => k_is)
    (case k19 => k_is)
    (case a20 => k_is)
    (case l20 => k_is)
    (case c20 => k_is)
    (case k20 => k_is)
    (case a21 => k_is)
    (case l21 => k_is)
    (case c21 => k_is)
    (case k21 => k_is)
    (case a22 => k_is)
    (case l22 => k_is)
    (case c22 => k_is)
    (case k22 => k_is)
    (case a23 => k_is)
    (case l23 => k_is)
    (case c23 => k_is)
    (case k23 => k_is)
    (case a24 => k_is)
    (case l24 => k_is)
    (case c24 => k_is)
    (case k24 => k_is)
    (case a25 => k_is)
    (case l25 => k_is)
    (case c25 => k_is)
    (case k25 => k_is)
    (case a26 => k_is)
    (case l26 => k_is)
    (case c26 => k_is)
    (case k26 => k_is)
    (case a27 => k_is)
    (case l27 => k_is)
    (case c27 => k_is)
    (case k27 => k_is)
    (case a28 => k_is)
    (case l28 => k_is)
    (case c28 => k_is)
    (case k28 => k_is)
    (case a29 => k_is)
    (case l29 => k_is)
    (case c29 => k_is)
    (case k29 => k_is)
    (case a30 => k_is)
    (case l30 => k_is)
    (case c30 => k_is)
    (case k30 => k_is)
    (case a31 => k_is)
    (case l31 => k_is)
    (case c31 => k_is)
    (case k31 => k_is)
    (case a32 => k_is)
    (case l32 => k_is)
    (case c32 => k_is)
    (case k32 => k_is)
    (case a33 => k_is)
    (case l33 => k_is)
    (case c33 => k_is)
    (case k33 => k_is)
    (case a34 => k_is)
    (case l34 => k_is)
    (case c34 => k_is)
    (case k34 => k_is)
    (case a35 => k_is)
    (case l35 => k_is)
    (case c35 => k_is)
    (case k35 => k_is)
    (case n1 => k_is)
    (case n2 => k_is)
    (case n3 => k_is)
    (case n4 => k_is)
    (case n5 => k_is)
    (case n6 => k_is)
    (case n7 => k_is)
    (case n8 => k_is)
    (case n9 => k_is)
    (case n10 => k_is)
    (case n11 => k_is)
    (case n12 => k_is)
    (case n13 => k_is)
    (case n14 => k_is)
    (case n15 => k_is)
    (case n16 => k_is)
    (case n17 => k_is)
    (case ag_BadStep => k_is)
    (case ag_NetError => k_is)
    (case ii_BadStep => k_is)
    (case ti_BadStep => k_is)
    (case li_BadStep => k_is)
    (case lc_BadStep => k_is)
    (case ci_BadStep => k_is)
    (case ld_BadStep => k_is)
    (case hv_BadStep => rfl)
    (case hf_BadStep => rfl)
    (case eb_BadStep => first | kernel_rfl | decide +kernel)
    (case xf_BadStep => first | kernel_rfl | decide +kernel)
    (case fn_BadStep_word => k_is)
    (case xe_BadStep => first | kernel_rfl | decide +kernel)
    (case kt_BadStep_BadStep => first | kernel_rfl | decide +kernel)
    (case xm_BadStep_NetError => first | kernel_rfl | decide +kernel)
    (case p_super => rfl)

