import PyProof.Rows.All
import HandS.ForMost
import HandS.ForExc
import HandS.TupMul
import HandS.TupAny
import HandS.IsInst
import HandS.Conv
import HandS.Style
import HandS.More
import HandS.Iter
import HandS.Zip
import HandS.Comp
import HandS.ExcOwn
import HandS.WordsExc
import KE.KDictItemsList
import HandS.ListItems
import HandS.Deep
import HandS.SortInts
import KE.KRevSl
import HandS.ExcInit
import HandS.ExcField
import HandS.ExcIs
import HandS.Nested
import KE.KExcSuper
import KE.KSuper
import KE.KFromBytes
import HandS.SortRule
import HandS.NoneIn
import PySem.Challenge.RW_keptasatree_k20_steps
set_option Elab.async false
set_option linter.all false
set_option maxRecDepth 100000
set_option maxHeartbeats 4000000
/-! AB0: a tuple repeated, any times -/
namespace L2
open PySem PySem.Spec PyProof.Rows
theorem ab_mul_same (l : Addr) (items : Array Value) (n : Nat) (dd : Option Addr) (sl : Array (Option Value)) (x : Int) (u : Tok) (c0 : (decide (x < -(2 ^ 63)) || decide (x ≥ 2 ^ 63)) = false) (c1 : (items.isEmpty || x == 1) = true) :
    Meets (Builtin.«tuple.__mul__» ⟨[.ref l, .int x u], []⟩) (fun _ R s => s.heap.get? l = some { cls := .type "tuple", dict := dd, data := .seq items n, slots := sl } ∧
      R (.ok (.ret (Value.ref l))) s) :=
  .of_wp fun prog w A R s h => by
    obtain ⟨hp, g, d, tk, os⟩ := s
    obtain ⟨hl, h⟩ := h
    have f1 := AutoSeq1.idx_int
    wp_walk using wpAny_loadPart' hl
    repeat (first
      | (refine wpAny_ite_false (decide_eq_false (by rw [c0]; exact Bool.false_ne_true)) ?_; wp_walk using wpAny_loadPart' hl)
      | (refine wpAny_ite_true (decide_eq_true c1) ?_; wp_walk using wpAny_loadPart' hl))
    all_goals exact ⟨_, rfl, h⟩
theorem ab_mul_none (l : Addr) (items : Array Value) (n : Nat) (dd : Option Addr) (sl : Array (Option Value)) (x : Int) (u : Tok) (c0 : (decide (x < -(2 ^ 63)) || decide (x ≥ 2 ^ 63)) = false) (c1 : (items.isEmpty || x == 1) = false) (c2 : (decide (x ≤ 0) || items.isEmpty) = true) :
    Meets (Builtin.«tuple.__mul__» ⟨[.ref l, .int x u], []⟩) (fun _ R s => s.heap.get? l = some { cls := .type "tuple", dict := dd, data := .seq items n, slots := sl } ∧
      R (.ok (.ret (Value.ref s.heap.objs.size))) { s with heap := s.heap.push { cls := Value.type "tuple", data := Data.seq #[] }, toks := s.toks }) :=
  .of_wp fun prog w A R s h => by
    obtain ⟨hp, g, d, tk, os⟩ := s
    obtain ⟨hl, h⟩ := h
    have f1 := AutoSeq1.idx_int
    wp_walk using wpAny_loadPart' hl
    repeat (first
      | (refine wpAny_ite_false (decide_eq_false (by rw [c0]; exact Bool.false_ne_true)) ?_; wp_walk using wpAny_loadPart' hl)
      | (refine wpAny_ite_false (decide_eq_false (by rw [c1]; exact Bool.false_ne_true)) ?_; wp_walk using wpAny_loadPart' hl)
      | (refine wpAny_ite_true (decide_eq_true c2) ?_; wp_walk using wpAny_loadPart' hl))
    all_goals exact ⟨_, rfl, h⟩
def rRepT1 (K : PySem.W.Frag) : R2 := fun x y H Q => ∃ l k xs, x = .ref l ∧ y = .int k ∧ SqT K H l xs ∧ -(2 ^ 63) ≤ k ∧ k < 2 ^ 63 ∧
  (((xs = [] ∨ k = 1) ∧ Q (.ref l) H) ∨ (xs ≠ [] ∧ k ≤ 0 ∧ ∀ p, H p = none → Q (.ref p) (upd H p (.tup []))))
theorem op_repT1 {X : Cx} : OpR X (binaryOp .Mult) (rRepT1 X.K) := by
  intro pins s σ H x y v u Q I rx ry h
  obtain ⟨l, k, xs, rfl, rfl, hT, k0, k1, q⟩ := h
  cases rx
  obtain ⟨t, rfl⟩ := ry
  obtain ⟨its, r, ⟨⟨cls, dd, data, sl⟩, ho, hc, n, hd⟩, hs⟩ := I.tuple hT
  simp only at hc hd
  subst hc hd
  have hle : its.length = xs.length := r.length.symm
  have c0 : (decide (k < -(2 ^ 63)) || decide (k ≥ 2 ^ 63)) = false := by
    rw [decide_eq_false (by omega), decide_eq_false (by omega)] <;> rfl
  rcases q with ⟨q0, q⟩ | ⟨q0, q1, q⟩
  · have c1 : (its.toArray.isEmpty || k == 1) = true := by
      rcases q0 with z | z
      · subst z
        have : its = [] := List.eq_nil_of_length_eq_zero (by rw [hle]; rfl)
        subst this; rfl
      · subst z; simp
    refine wpAny_binaryOp_repeat_ref (T := "tuple") (U := "int") (by decide) ⟨_, ho, rfl⟩ (fun s' => typeIs_int s' k t) noFill_tuple_mul F.fills_int_mul F.slot_int_rmul repeat_tuple F.slot_int_index.lookup
      (call_meets F.slot_int_rmul (typeIs_int s k t) F.entry_int_rmul (F.args_int_rmul_2 _ _) (int_rmul_tuple k t l its.toArray n dd sl)
        ⟨ho, rfl, ⟨_, ho, rfl⟩, call_meets F.slot_tuple_mul ⟨_, ho, rfl⟩ F.entry_tuple_mul (F.args_tuple_mul_2 _ _) (ab_mul_same l its.toArray n dd sl k t c0 c1) ⟨ho, ?_⟩⟩)
    exact ⟨.ref l, H, I, rfl, q⟩
  · have hn : its ≠ [] := fun e => q0 (by
      rw [e] at hle
      exact List.eq_nil_of_length_eq_zero hle.symm)
    have hi : its.toArray.isEmpty = false := by
      cases its with
      | nil => exact absurd rfl hn
      | cons a b => rfl
    have c1 : (its.toArray.isEmpty || k == 1) = false := by
      rw [hi, Bool.false_or]
      exact beq_eq_false_iff_ne.mpr (by omega)
    have c2 : (decide (k ≤ 0) || its.toArray.isEmpty) = true := by
      rw [decide_eq_true q1]; rfl
    refine wpAny_binaryOp_repeat_ref (T := "tuple") (U := "int") (by decide) ⟨_, ho, rfl⟩ (fun s' => typeIs_int s' k t) noFill_tuple_mul F.fills_int_mul F.slot_int_rmul repeat_tuple F.slot_int_index.lookup
      (call_meets F.slot_int_rmul (typeIs_int s k t) F.entry_int_rmul (F.args_int_rmul_2 _ _) (int_rmul_tuple k t l its.toArray n dd sl)
        ⟨ho, rfl, ⟨_, ho, rfl⟩, call_meets F.slot_tuple_mul ⟨_, ho, rfl⟩ F.entry_tuple_mul (F.args_tuple_mul_2 _ _) (ab_mul_none l its.toArray n dd sl k t c0 c1 c2) ⟨ho, ?_⟩⟩)
    refine ⟨.ref s.heap.objs.size, _, I.laid (t' := s.toks) (o := .tup []) (fun b ob q => Heap.get?_push_of_some _ q) (Nat.le_refl _) ?_, rfl, q _ (I.hok.fresh (Nat.le_refl _))⟩
    exact ⟨Nat.zero_le _, [], .nil, ⟨_, Heap.get?_push_size _ rfl, rfl, _, rfl⟩⟩
end L2

/-! AB1: values as trees, mutable objects by number; the judgement JE over HandS -/
namespace AB
open PySem PySem.Spec
open PyProof.Rows hiding St
open L2

/-- a value: immutable data by content, mutable objects by number -/
inductive PV where
  | non | bl (b : Bool) | int (i : Int) | str (x : Str)
  | tup (xs : List PV) | lst (xs : List PV) | ro (xs : List PV) | loc (n : Nat) | raw (v : V)

/-- a mutable object -/
inductive AO where
  | lst (xs : List PV)
  | dK (kvs : List (Key × PV))
  | dT (kvs : List (List Key × PV))
  | fK (kvs : List (Key × PV))

abbrev ASt := List (Option PV)
abbrev AH := List AO
/-- what an expression comes to -/
inductive Res (α : Type) where
  | ok (a : α) (h : AH)
  | exc (c : Addr) (fs : List (Str × PV)) (h : AH)
  | stuck
def Res.bind {α β : Type} : Res α → (α → AH → Res β) → Res β
  | .ok a h, f => f a h
  | .exc c fs h, _ => .exc c fs h
  | .stuck, _ => .stuck
@[simp] theorem Res.bind_ok {α β : Type} (a : α) (h : AH) (f : α → AH → Res β) : (Res.ok a h).bind f = f a h := rfl
@[simp] theorem Res.bind_exc {α β : Type} (c : Addr) (fs : List (Str × PV)) (h : AH) (f : α → AH → Res β) : (Res.exc c fs h : Res α).bind f = .exc c fs h := rfl
@[simp] theorem Res.bind_stuck {α β : Type} (f : α → AH → Res β) : (Res.stuck : Res α).bind f = .stuck := rfl
inductive Fl where
  | nx | rt (v : PV) | bk | ct
/-- what a statement comes to -/
inductive SRes where
  | fin (f : Fl) (σ : ASt) (h : AH)
  | exc (c : Addr) (fs : List (Str × PV)) (σ : ASt) (h : AH)
  | stuck
abbrev AE := ASt → AH → Res PV
abbrev AL := ASt → AH → Res (List PV)
abbrev AT := ASt → AH → Res Bool
abbrev AS := ASt → AH → SRes

/-- the written part and the world -/
structure KW where
  fr : PySem.W.Frag
  w : World
abbrev cxKW (X : Cx) : KW := ⟨X.K, X.w⟩
section
variable (K : KW)
/-- a tuple, a list that nobody writes any more -/
def FxT (ρ : List Addr) (H : Hp) (p : Addr) (vs : List V) : Prop :=
  (Rd H p (.tup vs) ∧ p ∉ ρ) ∨ ∃ (o : Obj) (its : Array Value) (n : Nat), K.fr.lookup p = some o ∧ o.cls = .type "tuple" ∧ o.data = .seq its n ∧ its.size ≤ sizeLine ∧ Vals vs its.toList
def FxL (ρ : List Addr) (H : Hp) (p : Addr) (vs : List V) : Prop := H p = some (.lst vs) ∧ p ∉ ρ
/-- a list that was handed in (the script) -/
def FxR (ρ : List Addr) (H : Hp) (p : Addr) (vs : List V) : Prop :=
  (Rd H p (.lst vs) ∧ p ∉ ρ) ∨ ∃ (o : Obj) (its : Array Value) (n : Nat), K.fr.lookup p = some o ∧ o.cls = .type "list" ∧ o.dict = none ∧ o.data = .seq its n ∧ its.size ≤ sizeLine ∧ Vals vs its.toList
inductive RV (ρ : List Addr) (H : Hp) : PV → V → Prop where
  | non : RV ρ H .non .non
  | bl (b : Bool) : RV ρ H (.bl b) (.bl b)
  | int (i : Int) : RV ρ H (.int i) (.int i)
  | str (x : Str) : RV ρ H (.str x) (.str x)
  | tup {xs : List PV} {p : Addr} (vs : List V) (f : FxT K ρ H p vs) (n : vs.length = xs.length) (e : ∀ (i : Nat) (x : PV) (v : V), xs[i]? = some x → vs[i]? = some v → RV ρ H x v) : RV ρ H (.tup xs) (.ref p)
  | lst {xs : List PV} {p : Addr} (vs : List V) (f : FxL ρ H p vs) (n : vs.length = xs.length) (e : ∀ (i : Nat) (x : PV) (v : V), xs[i]? = some x → vs[i]? = some v → RV ρ H x v) : RV ρ H (.lst xs) (.ref p)
  | ro {xs : List PV} {p : Addr} (vs : List V) (f : FxR K ρ H p vs) (n : vs.length = xs.length) (e : ∀ (i : Nat) (x : PV) (v : V), xs[i]? = some x → vs[i]? = some v → RV ρ H x v) : RV ρ H (.ro xs) (.ref p)
  | loc {n : Nat} {p : Addr} (e : ρ[n]? = some p) : RV ρ H (.loc n) (.ref p)
  | raw (v : V) : RV ρ H (.raw v) v
/-- lists of values -/
structure RVs (ρ : List Addr) (H : Hp) (xs : List PV) (vs : List V) : Prop where
  len : vs.length = xs.length
  at_ : ∀ (i : Nat) (x : PV) (v : V), xs[i]? = some x → vs[i]? = some v → RV K ρ H x v
/-- a dict's pairs -/
structure RKV {κ : Type} (ρ : List Addr) (H : Hp) (xs : List (κ × PV)) (vs : List (κ × V)) : Prop where
  keys : vs.map (·.1) = xs.map (·.1)
  vals : RVs K ρ H (xs.map (·.2)) (vs.map (·.2))
/-- an object -/
def RO (ρ : List Addr) (H : Hp) (a : Addr) : AO → Prop
  | .lst xs => ∃ vs, H a = some (.lst vs) ∧ RVs K ρ H xs vs
  | .dK kvs => ∃ vs, H a = some (.dK vs) ∧ RKV K ρ H kvs vs
  | .dT kvs => ∃ vs, H a = some (.dT vs) ∧ RKV K ρ H kvs vs
  | .fK kvs => ∃ ob vs, H a = some (.frz ob (.dK vs)) ∧ RKV K ρ H kvs vs
structure Rep (ρ : List Addr) (h : AH) (H : Hp) : Prop where
  nd : ρ.Nodup
  len : ρ.length = h.length
  obj : ∀ (n : Nat) (a : Addr) (o : AO), ρ[n]? = some a → h[n]? = some o → RO K ρ H a o
/-- slots -/
def RSo (ρ : List Addr) (H : Hp) : Option PV → Option V → Prop
  | none, _ => True
  | some x, some v => RV K ρ H x v
  | some _, none => False
structure RS (ρ : List Addr) (H : Hp) (σ : ASt) (τ : St) : Prop where
  len : τ.length = σ.length
  at_ : ∀ (i : Nat) (x : PV), σ[i]? = some (some x) → ∃ v, τ[i]? = some (some v) ∧ RV K ρ H x v
end
/-- from one moment to a later one -/
structure Ext (ρ : List Addr) (H : Hp) (ρ' : List Addr) (H' : Hp) : Prop where
  pre : ρ <+: ρ'
  old : ∀ p o, H p = some o → p ∉ ρ → H' p = some o ∧ p ∉ ρ'
  frz : ∀ p ob u, H p = some (.frz ob u) → H' p = some (.frz ob u)

section
variable {K : KW} {ρ ρ' ρ2 : List Addr} {H H' H2 : Hp} {h h' : AH}
theorem Ext.refl : Ext ρ H ρ H := ⟨List.prefix_refl _, fun _ _ e n => ⟨e, n⟩, fun _ _ _ e => e⟩
theorem Ext.trans (a : Ext ρ H ρ' H') (b : Ext ρ' H' ρ2 H2) : Ext ρ H ρ2 H2 :=
  ⟨a.pre.trans b.pre, fun p o e n => let ⟨e1, n1⟩ := a.old p o e n; b.old p o e1 n1, fun p ob u e => b.frz p ob u (a.frz p ob u e)⟩
theorem Ext.get {n : Nat} {p : Addr} (a : Ext ρ H ρ' H') (e : ρ[n]? = some p) : ρ'[n]? = some p := by
  obtain ⟨t, rfl⟩ := a.pre
  rw [List.getElem?_append_left (List.getElem?_eq_some_iff.mp e).1]; exact e
theorem Ext.rd {p : Addr} {u : HO} (a : Ext ρ H ρ' H') (r : Rd H p u) (n : p ∉ ρ) : Rd H' p u ∧ p ∉ ρ' := by
  rcases r with r | ⟨o, r⟩
  · exact ⟨.inl (a.old _ _ r n).1, (a.old _ _ r n).2⟩
  · exact ⟨.inr ⟨o, (a.old _ _ r n).1⟩, (a.old _ _ r n).2⟩
theorem FxT.mono {p : Addr} {vs : List V} (f : FxT K ρ H p vs) (a : Ext ρ H ρ' H') : FxT K ρ' H' p vs := by
  rcases f with ⟨r, n⟩ | c
  · exact .inl (a.rd r n)
  · exact .inr c
theorem FxL.mono {p : Addr} {vs : List V} (f : FxL ρ H p vs) (a : Ext ρ H ρ' H') : FxL ρ' H' p vs := a.old _ _ f.1 f.2
theorem FxR.mono {p : Addr} {vs : List V} (f : FxR K ρ H p vs) (a : Ext ρ H ρ' H') : FxR K ρ' H' p vs := by
  rcases f with ⟨r, n⟩ | c
  · exact .inl (a.rd r n)
  · exact .inr c
theorem FxT.sq {p : Addr} {vs : List V} (f : FxT K ρ H p vs) : SqT K.fr H p vs := by
  rcases f with ⟨r, n⟩ | c
  · exact .inl r
  · exact .inr c
theorem FxL.sq {p : Addr} {vs : List V} (f : FxL ρ H p vs) : SqL K.fr H p vs := .inl (.inl f.1)
theorem FxR.sq {p : Addr} {vs : List V} (f : FxR K ρ H p vs) : SqL K.fr H p vs := by
  rcases f with ⟨r, n⟩ | c
  · exact .inl r
  · exact .inr c
theorem RV.mono {x : PV} {v : V} (r : RV K ρ H x v) (a : Ext ρ H ρ' H') : RV K ρ' H' x v := by
  induction r with
  | non => exact .non
  | bl b => exact .bl b
  | int i => exact .int i
  | str x => exact .str x
  | tup vs f n e ih => exact .tup vs (f.mono a) n ih
  | lst vs f n e ih => exact .lst vs (f.mono a) n ih
  | ro vs f n e ih => exact .ro vs (f.mono a) n ih
  | loc e => exact .loc (a.get e)
  | raw v => exact .raw v
theorem RVs.mono {xs : List PV} {vs : List V} (r : RVs K ρ H xs vs) (a : Ext ρ H ρ' H') : RVs K ρ' H' xs vs := ⟨r.len, fun i x v e1 e2 => (r.at_ i x v e1 e2).mono a⟩
theorem RKV.mono {κ : Type} {xs : List (κ × PV)} {vs : List (κ × V)} (r : RKV K ρ H xs vs) (a : Ext ρ H ρ' H') : RKV K ρ' H' xs vs := ⟨r.keys, r.vals.mono a⟩
theorem RS.mono {σ : ASt} {τ : St} (r : RS K ρ H σ τ) (a : Ext ρ H ρ' H') : RS K ρ' H' σ τ :=
  ⟨r.len, fun i x e => let ⟨v, e1, q⟩ := r.at_ i x e; ⟨v, e1, q.mono a⟩⟩
theorem RVs.nil : RVs K ρ H [] [] := ⟨rfl, fun _ _ _ e => by simp at e⟩
theorem RVs.cons {x : PV} {v : V} {xs : List PV} {vs : List V} (r : RV K ρ H x v) (s : RVs K ρ H xs vs) : RVs K ρ H (x :: xs) (v :: vs) :=
  ⟨by simp [s.len], fun i y u e1 e2 => by
    cases i with
    | zero => simp at e1 e2; subst e1; subst e2; exact r
    | succ i => exact s.at_ i y u (by simpa using e1) (by simpa using e2)⟩
theorem RVs.nil_inv {vs : List V} (r : RVs K ρ H [] vs) : vs = [] := List.eq_nil_of_length_eq_zero (by simpa using r.len)
theorem RVs.cons_inv {x : PV} {xs : List PV} {vs : List V} (r : RVs K ρ H (x :: xs) vs) : ∃ v vs', vs = v :: vs' ∧ RV K ρ H x v ∧ RVs K ρ H xs vs' := by
  cases vs with
  | nil => have := r.len; simp at this
  | cons v vs' => exact ⟨v, vs', rfl, r.at_ 0 x v rfl rfl, by have := r.len; simpa using this, fun i y u e1 e2 => r.at_ (i + 1) y u (by simpa using e1) (by simpa using e2)⟩
theorem RVs.append {xs ys : List PV} {vs us : List V} (r : RVs K ρ H xs vs) (s : RVs K ρ H ys us) : RVs K ρ H (xs ++ ys) (vs ++ us) :=
  ⟨by simp [r.len, s.len], fun i y u e1 e2 => by
    by_cases hi : i < xs.length
    · rw [List.getElem?_append_left hi] at e1
      rw [List.getElem?_append_left (by rw [r.len]; exact hi)] at e2
      exact r.at_ i y u e1 e2
    · rw [List.getElem?_append_right (by omega)] at e1
      rw [List.getElem?_append_right (by rw [r.len]; omega), r.len] at e2
      exact s.at_ _ y u e1 e2⟩
theorem RVs.get {xs : List PV} {vs : List V} {i : Nat} {x : PV} (r : RVs K ρ H xs vs) (e : xs[i]? = some x) : ∃ v, vs[i]? = some v ∧ RV K ρ H x v := by
  have hi : i < vs.length := by rw [r.len]; exact (List.getElem?_eq_some_iff.mp e).1
  exact ⟨vs[i], by simp [hi], r.at_ i x _ e (by simp [hi])⟩
theorem RVs.set {xs : List PV} {vs : List V} {i : Nat} {x : PV} {v : V} (r : RVs K ρ H xs vs) (q : RV K ρ H x v) : RVs K ρ H (xs.set i x) (vs.set i v) :=
  ⟨by simp [r.len], fun j y u e1 e2 => by
    by_cases hj : i = j
    · subst hj
      have h1 : i < xs.length := by have := (List.getElem?_eq_some_iff.mp e1).1; simpa using this
      rw [List.getElem?_set_self h1] at e1
      rw [List.getElem?_set_self (by rw [r.len]; exact h1)] at e2
      cases e1; cases e2; exact q
    · rw [List.getElem?_set_ne hj] at e1 e2
      exact r.at_ j y u e1 e2⟩
theorem RVs.take {xs : List PV} {vs : List V} (n : Nat) (r : RVs K ρ H xs vs) : RVs K ρ H (xs.take n) (vs.take n) :=
  ⟨by simp [r.len], fun j y u e1 e2 => by
    have hj : j < n := by
      have := (List.getElem?_eq_some_iff.mp e1).1
      rw [List.length_take] at this; omega
    rw [List.getElem?_take_of_lt hj] at e1 e2
    exact r.at_ j y u e1 e2⟩
theorem RVs.drop {xs : List PV} {vs : List V} (n : Nat) (r : RVs K ρ H xs vs) : RVs K ρ H (xs.drop n) (vs.drop n) :=
  ⟨by simp [r.len], fun j y u e1 e2 => by
    rw [List.getElem?_drop] at e1 e2
    exact r.at_ _ y u e1 e2⟩
theorem RVs.tail {xs : List PV} {vs : List V} (r : RVs K ρ H xs vs) : RVs K ρ H xs.tail vs.tail := by
  rw [← List.drop_one, ← List.drop_one]; exact r.drop 1
theorem RVs.eraseIdx {xs : List PV} {vs : List V} (n : Nat) (r : RVs K ρ H xs vs) : RVs K ρ H (xs.eraseIdx n) (vs.eraseIdx n) := by
  rw [List.eraseIdx_eq_take_drop_succ, List.eraseIdx_eq_take_drop_succ]
  exact (r.take n).append (r.drop (n + 1))
theorem RVs.reverse {xs : List PV} {vs : List V} (r : RVs K ρ H xs vs) : RVs K ρ H xs.reverse vs.reverse :=
  ⟨by simp [r.len], fun j y u e1 e2 => by
    have hj : j < xs.length := by have := (List.getElem?_eq_some_iff.mp e1).1; simpa using this
    rw [List.getElem?_reverse hj] at e1
    rw [List.getElem?_reverse (by rw [r.len]; exact hj), r.len] at e2
    exact r.at_ _ y u e1 e2⟩
/-! what a value of a known shape is -/
theorem RV.int_inv {i : Int} {v : V} (r : RV K ρ H (.int i) v) : v = .int i := by cases r; rfl
theorem RV.bl_inv {b : Bool} {v : V} (r : RV K ρ H (.bl b) v) : v = .bl b := by cases r; rfl
theorem RV.str_inv {x : Str} {v : V} (r : RV K ρ H (.str x) v) : v = .str x := by cases r; rfl
theorem RV.non_inv {v : V} (r : RV K ρ H .non v) : v = .non := by cases r; rfl
theorem RV.tup_inv {xs : List PV} {v : V} (r : RV K ρ H (.tup xs) v) : ∃ p vs, v = .ref p ∧ FxT K ρ H p vs ∧ RVs K ρ H xs vs := by
  cases r with | tup vs f n e => exact ⟨_, vs, rfl, f, n, e⟩
theorem RV.lst_inv {xs : List PV} {v : V} (r : RV K ρ H (.lst xs) v) : ∃ p vs, v = .ref p ∧ FxL ρ H p vs ∧ RVs K ρ H xs vs := by
  cases r with | lst vs f n e => exact ⟨_, vs, rfl, f, n, e⟩
theorem RV.ro_inv {xs : List PV} {v : V} (r : RV K ρ H (.ro xs) v) : ∃ p vs, v = .ref p ∧ FxR K ρ H p vs ∧ RVs K ρ H xs vs := by
  cases r with | ro vs f n e => exact ⟨_, vs, rfl, f, n, e⟩
theorem RV.loc_inv {n : Nat} {v : V} (r : RV K ρ H (.loc n) v) : ∃ p, v = .ref p ∧ ρ[n]? = some p := by
  cases r with | loc e => exact ⟨_, rfl, e⟩
theorem RVs.ints {ns : List Int} {vs : List V} (r : RVs K ρ H (ns.map PV.int) vs) : vs = ns.map V.int := by
  induction ns generalizing vs with
  | nil => exact r.nil_inv
  | cons n ns ih =>
    obtain ⟨v, vs', rfl, q, s⟩ := r.cons_inv
    rw [q.int_inv, ih s]; rfl
theorem RVs.bools {ns : List Bool} {vs : List V} (r : RVs K ρ H (ns.map PV.bl) vs) : vs = ns.map V.bl := by
  induction ns generalizing vs with
  | nil => exact r.nil_inv
  | cons n ns ih =>
    obtain ⟨v, vs', rfl, q, s⟩ := r.cons_inv
    rw [q.bl_inv, ih s]; rfl
theorem RVs.of_ints (ns : List Int) : RVs K ρ H (ns.map PV.int) (ns.map V.int) := by
  induction ns with
  | nil => exact .nil
  | cons n ns ih => exact .cons (.int n) ih
/-! the heap's steps -/
theorem nodup_at {α : Type} {N : List α} (hN : N.Nodup) {i j : Nat} {x : α} (a : N[i]? = some x) (b : N[j]? = some x) : i = j := by
  induction N generalizing i j with
  | nil => simp at a
  | cons y r ih =>
    have hd := List.nodup_cons.mp hN
    cases i with
    | zero =>
      cases j with
      | zero => rfl
      | succ j => simp at a b; subst a; exact absurd (List.mem_of_getElem? b) hd.1
    | succ i =>
      cases j with
      | zero => simp at a b; subst b; exact absurd (List.mem_of_getElem? a) hd.1
      | succ j =>
        have q := ih hd.2 (i := i) (j := j) (by simpa using a) (by simpa using b)
        omega
/-- an untracked thing is laid -/
theorem Ext.fresh {p : Addr} {o : HO} (hp : H p = none) : Ext ρ H ρ (upd H p o) :=
  ⟨List.prefix_refl _, fun q u e n => ⟨by rw [upd_ne (ne_of_none e hp)]; exact e, n⟩, fun q ob u e => by rw [upd_ne (ne_of_none e hp)]; exact e⟩
theorem RO.mono {a : Addr} {o : AO} (r : RO K ρ H a o) (e : Ext ρ H ρ' H') (ha : H' a = H a) : RO K ρ' H' a o := by
  cases o with
  | lst xs => obtain ⟨vs, e1, q⟩ := r; exact ⟨vs, ha.trans e1, q.mono e⟩
  | dK xs => obtain ⟨vs, e1, q⟩ := r; exact ⟨vs, ha.trans e1, q.mono e⟩
  | dT xs => obtain ⟨vs, e1, q⟩ := r; exact ⟨vs, ha.trans e1, q.mono e⟩
  | fK xs => obtain ⟨ob, vs, e1, q⟩ := r; exact ⟨ob, vs, ha.trans e1, q.mono e⟩
theorem RO.here {a : Addr} {o : AO} (r : RO K ρ H a o) : ∃ u, H a = some u := by
  cases o with
  | lst xs => obtain ⟨vs, e1, q⟩ := r; exact ⟨_, e1⟩
  | dK xs => obtain ⟨vs, e1, q⟩ := r; exact ⟨_, e1⟩
  | dT xs => obtain ⟨vs, e1, q⟩ := r; exact ⟨_, e1⟩
  | fK xs => obtain ⟨ob, vs, e1, q⟩ := r; exact ⟨_, e1⟩
theorem Rep.here {n : Nat} {a : Addr} (R : Rep K ρ h H) (e : ρ[n]? = some a) : ∃ u, H a = some u := by
  have hn : n < h.length := by rw [← R.len]; exact (List.getElem?_eq_some_iff.mp e).1
  obtain ⟨u, e1⟩ := (R.obj n a h[n] e (by simp [hn])).here
  exact ⟨u, e1⟩
theorem Rep.notin {p : Addr} (R : Rep K ρ h H) (hp : H p = none) : p ∉ ρ := fun z => by
  obtain ⟨n, e⟩ := List.getElem?_of_mem z
  obtain ⟨u, e1⟩ := R.here e
  rw [hp] at e1; cases e1
theorem Rep.fresh {p : Addr} {o : HO} (R : Rep K ρ h H) (hp : H p = none) : Rep K ρ h (upd H p o) :=
  ⟨R.nd, R.len, fun n a u e1 e2 => (R.obj n a u e1 e2).mono (.fresh hp) (by
    obtain ⟨w, e3⟩ := R.here e1
    exact upd_ne (ne_of_none e3 hp))⟩
/-- a new object -/
theorem Ext.push {p : Addr} {o : HO} (hp : H p = none) : Ext ρ H (ρ ++ [p]) (upd H p o) :=
  ⟨List.prefix_append _ _, fun q u e n => ⟨by rw [upd_ne (ne_of_none e hp)]; exact e, by
    rw [List.mem_append, List.mem_singleton]; rintro (z | z); exact n z; subst z; rw [hp] at e; cases e⟩, fun q ob u e => by rw [upd_ne (ne_of_none e hp)]; exact e⟩
theorem Rep.push {p : Addr} {o : HO} {u : AO} (R : Rep K ρ h H) (hp : H p = none) (r : RO K (ρ ++ [p]) (upd H p o) p u) : Rep K (ρ ++ [p]) (h ++ [u]) (upd H p o) := by
  refine ⟨?_, by simp [R.len], fun n a w e1 e2 => ?_⟩
  · rw [List.nodup_append]
    exact ⟨R.nd, by simp, fun a ha b hb z => by
      rw [List.mem_singleton] at hb; subst hb; subst z; exact R.notin hp ha⟩
  · by_cases hn : n < ρ.length
    · rw [List.getElem?_append_left hn] at e1
      rw [List.getElem?_append_left (by rw [← R.len]; exact hn)] at e2
      exact (R.obj n a w e1 e2).mono (.push hp) (by
        obtain ⟨w, e3⟩ := R.here e1
        exact upd_ne (ne_of_none e3 hp))
    · rw [List.getElem?_append_right (by omega)] at e1
      rw [List.getElem?_append_right (by rw [← R.len]; omega), ← R.len] at e2
      have e0 : n - ρ.length = 0 := by
        have := (List.getElem?_eq_some_iff.mp e1).1
        simp at this; omega
      rw [e0] at e1 e2
      simp at e1 e2
      subst e1; subst e2; exact r
/-- an object is written -/
theorem Ext.write {n : Nat} {a : Addr} {o : HO} (e : ρ[n]? = some a) (nf : ∀ ob u, H a ≠ some (.frz ob u)) : Ext ρ H ρ (upd H a o) :=
  ⟨List.prefix_refl _, fun q u e1 nq => ⟨by
    have z : q ≠ a := by rintro rfl; exact nq (List.mem_of_getElem? e)
    rw [upd_ne z]; exact e1, nq⟩, fun q ob u e1 => by
    have z : q ≠ a := by rintro rfl; exact nf ob u e1
    rw [upd_ne z]; exact e1⟩
theorem nfz {H : Hp} {a : Addr} {o : HO} (e : H a = some o) (n : ∀ ob u, o ≠ .frz ob u) : ∀ ob u, H a ≠ some (.frz ob u) := fun ob u z => by rw [e] at z; cases z; exact n ob u rfl
theorem nfL {H : Hp} {a : Addr} {vs : List V} (e : H a = some (.lst vs)) : ∀ ob u, H a ≠ some (.frz ob u) := nfz e fun _ _ z => by cases z
theorem nfK {H : Hp} {a : Addr} {vs : List (Key × V)} (e : H a = some (.dK vs)) : ∀ ob u, H a ≠ some (.frz ob u) := nfz e fun _ _ z => by cases z
theorem Rep.write {n : Nat} {a : Addr} {o : HO} {u : AO} (R : Rep K ρ h H) (e : ρ[n]? = some a) (nf : ∀ ob u, H a ≠ some (.frz ob u)) (r : RO K ρ (upd H a o) a u) : Rep K ρ (h.set n u) (upd H a o) := by
  refine ⟨R.nd, by simp [R.len], fun m b w e1 e2 => ?_⟩
  by_cases hm : n = m
  · subst hm
    rw [e] at e1; cases e1
    rw [List.getElem?_set_self (by rw [← R.len]; exact (List.getElem?_eq_some_iff.mp e).1)] at e2
    cases e2; exact r
  · rw [List.getElem?_set_ne hm] at e2
    refine (R.obj m b w e1 e2).mono (.write e nf) (upd_ne fun z => hm ?_)
    subst z
    have h1 := (List.getElem?_eq_some_iff.mp e)
    have h2 := (List.getElem?_eq_some_iff.mp e1)
    exact nodup_at R.nd e e1
theorem RS.set {σ : ASt} {τ : St} {x : PV} {v : V} (r : RS K ρ H σ τ) (i : Nat) (q : RV K ρ H x v) : RS K ρ H (σ.set i (some x)) (τ.set i (some v)) :=
  ⟨by simp [r.len], fun j y e => by
    by_cases hj : i = j
    · subst hj
      have h1 : i < σ.length := by have := (List.getElem?_eq_some_iff.mp e).1; simpa using this
      rw [List.getElem?_set_self h1] at e
      cases e
      exact ⟨v, by rw [List.getElem?_set_self (by rw [r.len]; exact h1)], q⟩
    · rw [List.getElem?_set_ne hj] at e
      obtain ⟨u, e1, q1⟩ := r.at_ j y e
      exact ⟨u, by rw [List.getElem?_set_ne hj]; exact e1, q1⟩⟩
theorem RS.unset {σ : ASt} {τ : St} (r : RS K ρ H σ τ) (i : Nat) (w : Option V) : RS K ρ H (σ.set i none) (τ.set i w) :=
  ⟨by simp [r.len], fun j y e => by
    by_cases hj : i = j
    · subst hj
      have h1 : i < σ.length := by have := (List.getElem?_eq_some_iff.mp e).1; simpa using this
      rw [List.getElem?_set_self h1] at e
      cases e
    · rw [List.getElem?_set_ne hj] at e
      obtain ⟨u, e1, q1⟩ := r.at_ j y e
      exact ⟨u, by rw [List.getElem?_set_ne hj]; exact e1, q1⟩⟩
end

/-! ### the judgement -/
section
variable (K : KW) (W : WX)
/-- an exception's own dict -/
def XD (ρ : List Addr) (H : Hp) (d : Addr) (fs : List (Str × PV)) : Prop := d ∉ ρ ∧ ∃ vs, H d = some (.xd vs) ∧ RKV K ρ H fs vs
def Exc (ρ : List Addr) (σ : St) (H : Hp) (c : Addr) (fs : List (Str × PV)) (h : AH) : Prop :=
  ∀ ρ' H' d, Ext ρ H ρ' H' → Rep K ρ' h H' → XD K ρ' H' d fs → W (.ref c) (some d) σ H'
/-- a result of type α, whose values are told by R -/
def Out {α β : Type} (R : List Addr → Hp → α → β → Prop) (ρ : List Addr) (σ : St) (H : Hp) (r : Res α) (Q : β → Hp → Prop) : Prop :=
  match r with
  | .ok a h => ∀ ρ' H' x, Ext ρ H ρ' H' → Rep K ρ' h H' → R ρ' H' a x → Q x H'
  | .exc c fs h => Exc K W ρ σ H c fs h
  | .stuck => False
abbrev OutE := Out K W (RV K)
abbrev OutT := Out K W (fun _ _ (a b : Bool) => a = b)
abbrev OutL := Out K W (RVs K)
def LE (m : AE) : TE := fun τ H Q => ∃ ρ h σ, Rep K ρ h H ∧ RS K ρ H σ τ ∧ OutE K W ρ τ H (m σ h) Q
def LT (m : AT) : TT := fun τ H Q => ∃ ρ h σ, Rep K ρ h H ∧ RS K ρ H σ τ ∧ OutT K W ρ τ H (m σ h) Q
def LL (m : AL) : TA := fun τ H Q => ∃ ρ h σ, Rep K ρ h H ∧ RS K ρ H σ τ ∧ OutL K W ρ τ H (m σ h) Q
def OutS (ρ : List Addr) (H : Hp) (r : SRes) (D : Ends) : Prop :=
  match r with
  | .fin .nx σ h => ∀ ρ' τ H', Ext ρ H ρ' H' → Rep K ρ' h H' → RS K ρ' H' σ τ → D.nx τ H'
  | .fin .bk σ h => ∀ ρ' τ H', Ext ρ H ρ' H' → Rep K ρ' h H' → RS K ρ' H' σ τ → D.bk τ H'
  | .fin .ct σ h => ∀ ρ' τ H', Ext ρ H ρ' H' → Rep K ρ' h H' → RS K ρ' H' σ τ → D.ct τ H'
  | .fin (.rt v) _ h => ∀ ρ' x H', Ext ρ H ρ' H' → Rep K ρ' h H' → RV K ρ' H' v x → D.rt x H'
  | .exc c fs σ h => ∀ ρ' τ H' d, Ext ρ H ρ' H' → Rep K ρ' h H' → RS K ρ' H' σ τ → XD K ρ' H' d fs → W (.ref c) (some d) τ H'
  | .stuck => False
def LS (m : AS) : TS := fun D τ H => ∃ ρ h σ, Rep K ρ h H ∧ RS K ρ H σ τ ∧ OutS K W ρ H (m σ h) D
end
structure JE (X : Cx) (W : WX) (e : Expr) (m : AE) : Prop where
  pe : PE X e (LE (cxKW X) W m)
structure JT (X : Cx) (W : WX) (e : Expr) (m : AT) : Prop where
  pt : PT X e (LT (cxKW X) W m)
structure JA (X : Cx) (W : WX) (es : List Expr) (m : AL) : Prop where
  pa : PA X es (LL (cxKW X) W m)
structure JS (X : Cx) (W : WX) (st : Stmt) (m : AS) : Prop where
  ps : PS X st (LS (cxKW X) W m)
structure JSs (X : Cx) (W : WX) (st : List Stmt) (m : AS) : Prop where
  pss : PSs X st (LS (cxKW X) W m)

section
variable {X : Cx} {K : KW} {W : WX} {ρ ρ' ρ2 : List Addr} {H H' H2 : Hp} {h h' : AH} {τ : St}
theorem PEmono {e : Expr} {t t' : TE} (p : PE X e t) (i : ∀ σ H Q, t' σ H Q → t σ H Q) : PE X e t' := ⟨fun pins s σ H Q I h => p.run pins s σ H Q I (i σ H Q h)⟩
theorem PTmono {e : Expr} {t t' : TT} (p : PT X e t) (i : ∀ σ H Q, t' σ H Q → t σ H Q) : PT X e t' := ⟨fun pins s σ H Q I h => p.run pins s σ H Q I (i σ H Q h)⟩
theorem PWmono {e : Expr} {t t' : TT} (p : PW X e t) (i : ∀ σ H Q, t' σ H Q → t σ H Q) : PW X e t' := ⟨fun w pins s σ H Q I h => p.run w pins s σ H Q I (i σ H Q h)⟩
theorem PAmono {e : List Expr} {t t' : TA} (p : PA X e t) (i : ∀ σ H Q, t' σ H Q → t σ H Q) : PA X e t' := ⟨fun pos pins s σ H Q I h => p.run pos pins s σ H Q I (i σ H Q h)⟩
theorem PSmono {e : Stmt} {t t' : TS} (p : PS X e t) (i : ∀ D σ H, t' D σ H → t D σ H) : PS X e t' := ⟨fun pins s σ H D I h => p.run pins s σ H D I (i D σ H h)⟩
theorem PSsmono {e : List Stmt} {t t' : TS} (p : PSs X e t) (i : ∀ D σ H, t' D σ H → t D σ H) : PSs X e t' := ⟨fun pins s σ H D I h => p.run pins s σ H D I (i D σ H h)⟩
theorem Exc.later {c : Addr} {fs : List (Str × PV)} (x : Exc K W ρ τ H c fs h) (e : Ext ρ H ρ' H') : Exc K W ρ' τ H' c fs h := fun r G d a b f => x r G d (e.trans a) b f
section
variable {α β α' β' : Type} {R : List Addr → Hp → α → β → Prop} {R' : List Addr → Hp → α' → β' → Prop}
theorem Out.later {r : Res α} {Q : β → Hp → Prop} (x : Out K W R ρ τ H r Q) (e : Ext ρ H ρ' H') : Out K W R ρ' τ H' r Q := by
  cases r with
  | ok a h => exact fun r G y a b f => x r G y (e.trans a) b f
  | exc c fs h => exact Exc.later x e
  | stuck => exact x
theorem Out.mono {r : Res α} {Q Q' : β → Hp → Prop} (x : Out K W R ρ τ H r Q) (i : ∀ y G, Q y G → Q' y G) : Out K W R ρ τ H r Q' := by
  cases r with
  | ok a h => exact fun r G y a b f => i _ _ (x r G y a b f)
  | exc c fs h => exact x
  | stuck => exact x
theorem Out.bind {r : Res α} {f : α → AH → Res α'} {Q : β' → Hp → Prop} (x : Out K W R' ρ τ H (r.bind f) Q) :
    Out K W R ρ τ H r (fun y G => ∃ ρ1 a h1, Ext ρ H ρ1 G ∧ Rep K ρ1 h1 G ∧ R ρ1 G a y ∧ Out K W R' ρ1 τ G (f a h1) Q) := by
  cases r with
  | ok a h => exact fun r G y e b g => ⟨r, a, h, e, b, g, Out.later x e⟩
  | exc c fs h => exact x
  | stuck => exact x
theorem Out.done {a : α} {y : β} {Q : β → Hp → Prop} (x : Out K W R ρ τ H (.ok a h) Q) (b : Rep K ρ h H) (r : R ρ H a y) : Q y H := x ρ H y .refl b r
end
end
end AB

/-! AB2: operators and plain expressions -/
namespace AB
open PySem PySem.Spec
open PyProof.Rows hiding St
open L2
/-! ### values at places -/
section
variable {X : Cx} {W : WX} {K : KW}
def aC (v : PV) : AE := fun _ h => .ok v h
def aVar (i : Nat) : AE := fun σ h => match σ[i]? with
  | some (some v) => .ok v h
  | _ => .stuck
theorem je_c {e : Expr} {v : V} {x : PV} (p : PE X e (tC v)) (r : ∀ ρ H, RV (cxKW X) ρ H x v) : JE X W e (aC x) :=
  ⟨PEmono p fun τ H Q ⟨ρ, h, σ, R, S, o⟩ => Out.done o R (r ρ H)⟩
theorem je_int {i j pos} : JE X W (.Constant (.int i) j pos) (aC (.int i)) := je_c pe_int fun _ _ => .int i
theorem je_bl {i j pos} : JE X W (.Constant (.bool i) j pos) (aC (.bl i)) := je_c pe_bl fun _ _ => .bl i
theorem je_non {j pos} : JE X W (.Constant .none j pos) (aC .non) := je_c pe_non fun _ _ => .non
theorem je_str {x j pos} : JE X W (.Constant (.str x) j pos) (aC (.str x)) := je_c pe_str fun _ _ => .str x
theorem je_var {i : Nat} {e : Expr} (p : PE X e (tVar i)) : JE X W e (aVar i) :=
  ⟨PEmono p fun τ H Q ⟨ρ, h, σ, R, S, o⟩ => by
    unfold aVar at o
    split at o
    · rename_i v e
      obtain ⟨u, e1, r⟩ := S.at_ i v e
      exact ⟨u, e1, Out.done o R r⟩
    · exact o.elim⟩
theorem jv (i : Nat) {x : Str} {pos : Pos} (hN : X.N[i]? = some x := by rfl) (hv : Vis X.env.scope x := by first | exact Or.inl rfl | exact Or.inr (Or.inl rfl) | exact Or.inr (Or.inr rfl)) (hd : (x == ("__debug__" : Str)) = false := by decide)
    (hcd : (x == ("__classdict__" : Str)) = false := by decide) : JE X W (.Name x pos) (aVar i) := je_var (pv i hN hv hd hcd)
/-- a module's constant -/
theorem je_glob {x : Str} {v : V} {u : Value} {y : PV} {pos : Pos} (hm : X.mg x = some u) (r : RelV v u) (q : ∀ ρ H, RV (cxKW X) ρ H y v) (hg : Gl X x := by rfl) (hd : (x == ("__debug__" : Str)) = false := by decide) : JE X W (.Name x pos) (aC y) :=
  je_c (pe_glob hg hm r hd) q
/-! ### two places -/
abbrev F2 := PV → PV → AH → Res PV
def OpA (K : KW) (r : R2) (f : F2) : Prop := ∀ (ρ : List Addr) (h : AH) (H : Hp) (τ : St) (W : WX) (x y : V) (v u : PV) (Q : VK), Rep K ρ h H → RV K ρ H v x → RV K ρ H u y → OutE K W ρ τ H (f v u h) Q → r x y H Q
structure JOp (X : Cx) (g : Value → Value → Sem Value) (f : F2) : Prop where
  ex : ∃ r, OpR X g r ∧ OpA (cxKW X) r f
def aOp (f : F2) (a b : AE) : AE := fun σ h => (a σ h).bind fun x h1 => (b σ h1).bind fun y h2 => f x y h2
theorem le_op {r : R2} {f : F2} {a b : AE} (hf : OpA K r f) {τ : St} {H : Hp} {Q : VK} (o : LE K W (aOp f a b) τ H Q) : tOp r (LE K W a) (LE K W b) τ H Q := by
  obtain ⟨ρ, h, σ, R, S, o⟩ := o
  refine ⟨ρ, h, σ, R, S, (Out.bind (R := RV K) o).mono fun x H1 ⟨ρ1, v, h1, e1, R1, q1, o1⟩ => ?_⟩
  refine ⟨ρ1, h1, σ, R1, S.mono e1, (Out.bind (R := RV K) o1).mono fun y H2 ⟨ρ2, u, h2, e2, R2, q2, o2⟩ => ?_⟩
  exact hf ρ2 h2 H2 τ W x y v u Q R2 (q1.mono e2) q2 o2
theorem je_op {op : Operator} {f : F2} {a b : Expr} {ma mb : AE} {pos : Pos} (ho : JOp X (binaryOp op) f) (ha : JE X W a ma) (hb : JE X W b mb) : JE X W (.BinOp a op b pos) (aOp f ma mb) := by
  obtain ⟨r, h1, h2⟩ := ho.ex
  exact ⟨PEmono (pe_op h1 ha.pe hb.pe) fun τ H Q o => le_op h2 o⟩
/-- a comparison -/
theorem je_cmp {op : CmpOp} {f : F2} {a b : Expr} {ma mb : AE} {pos : Pos} (ho : JOp X (compareOp op) f) (ha : JE X W a ma) (hb : JE X W b mb) (hm : behindInMarks op b = false := by first | exact nomark _ | with_unfolding_all rfl) : JE X W (.Compare a [op] [b] pos) (aOp f ma mb) := by
  obtain ⟨r, h1, h2⟩ := ho.ex
  exact ⟨PEmono (pe_cmpR h1 ha.pe hb.pe hm) fun τ H Q o => le_op h2 o⟩
/-- truth that is a bool -/
def aB (m : AE) : AT := fun σ h => (m σ h).bind fun x h1 => match x with
  | .bl b => .ok b h1
  | _ => .stuck
theorem le_b {m : AE} {τ : St} {H : Hp} {Q : Bool → Hp → Prop} (o : LT K W (aB m) τ H Q) : LE K W m τ H (fun x H' => ∃ k, x = .bl k ∧ Q k H') := by
  obtain ⟨ρ, h, σ, R, S, o⟩ := o
  refine ⟨ρ, h, σ, R, S, (Out.bind (R := RV K) o).mono fun x H1 ⟨ρ1, v, h1, e1, R1, q1, o1⟩ => ?_⟩
  cases v with
  | bl b => exact ⟨b, q1.bl_inv, Out.done o1 R1 rfl⟩
  | _ => exact o1.elim
theorem jt_cmp {op : CmpOp} {f : F2} {a b : Expr} {ma mb : AE} {pos : Pos} (ho : JOp X (compareOp op) f) (ha : JE X W a ma) (hb : JE X W b mb) (hm : behindInMarks op b = false := by first | exact nomark _ | with_unfolding_all rfl) : JT X W (.Compare a [op] [b] pos) (aB (aOp f ma mb)) := by
  obtain ⟨r, h1, h2⟩ := ho.ex
  refine ⟨PTmono (pt_cmpR h1 ha.pe hb.pe hm) fun τ H Q o => ?_⟩
  have q := le_b o
  obtain ⟨ρ, h, σ, R, S, o'⟩ := q
  exact le_op h2 ⟨ρ, h, σ, R, S, o'⟩
/-- a < b < c -/
def aChain (f g : F2) (a b c : AE) : AE := fun σ h => (a σ h).bind fun x h1 => (b σ h1).bind fun y h2 => (f x y h2).bind fun z h3 => match z with
  | .bl true => (c σ h3).bind fun w h4 => g y w h4
  | .bl false => .ok (.bl false) h3
  | _ => .stuck
theorem le_chain {r r' : R2} {f g : F2} {a b c : AE} (hf : OpA K r f) (hg : OpA K r' g) {τ : St} {H : Hp} {Q : VK} (o : LE K W (aChain f g a b c) τ H Q) : tChain r r' (LE K W a) (LE K W b) (LE K W c) τ H Q := by
  obtain ⟨ρ, h, σ, R, S, o⟩ := o
  refine ⟨ρ, h, σ, R, S, (Out.bind (R := RV K) o).mono fun x H1 ⟨ρ1, v, h1, e1, R1, q1, o1⟩ => ?_⟩
  refine ⟨ρ1, h1, σ, R1, S.mono e1, (Out.bind (R := RV K) o1).mono fun y H2 ⟨ρ2, u, h2, e2, R2, q2, o2⟩ => ?_⟩
  refine hf ρ2 h2 H2 τ W x y v u _ R2 (q1.mono e2) q2 ((Out.bind (R := RV K) o2).mono fun z H3 ⟨ρ3, w, h3, e3, R3, q3, o3⟩ => ?_)
  cases w with
  | bl k =>
    refine ⟨k, q3.bl_inv, ?_⟩
    cases k with
    | true =>
      rw [if_pos rfl]
      refine ⟨ρ3, h3, σ, R3, ((S.mono e1).mono e2).mono e3, (Out.bind (R := RV K) o3).mono fun w H4 ⟨ρ4, t, h4, e4, R4, q4, o4⟩ => ?_⟩
      exact hg ρ4 h4 H4 τ W y w u t Q R4 ((q2.mono e3).mono e4) q4 o4
    | false =>
      rw [if_neg Bool.false_ne_true]
      exact Out.done o3 R3 (.bl false)
  | _ => exact o3.elim
theorem je_chain {op op' : CmpOp} {f g : F2} {a b c : Expr} {ma mb mc : AE} {pos : Pos} (ho : JOp X (compareOp op) f) (ho' : JOp X (compareOp op') g) (ha : JE X W a ma) (hb : JE X W b mb) (hc : JE X W c mc)
    (hm : lastMarks [op, op'] [b, c] = false := by rfl) : JE X W (.Compare a [op, op'] [b, c] pos) (aChain f g ma mb mc) := by
  obtain ⟨r, h1, h2⟩ := ho.ex
  obtain ⟨r', h1', h2'⟩ := ho'.ex
  exact ⟨PEmono (pe_chain h1 h1' ha.pe hb.pe hc.pe hm) fun τ H Q o => le_chain h2 h2' o⟩
theorem jt_chain {op op' : CmpOp} {f g : F2} {a b c : Expr} {ma mb mc : AE} {pos : Pos} (ho : JOp X (compareOp op) f) (ho' : JOp X (compareOp op') g) (ha : JE X W a ma) (hb : JE X W b mb) (hc : JE X W c mc)
    (hm : lastMarks [op, op'] [b, c] = false := by rfl) : JT X W (.Compare a [op, op'] [b, c] pos) (aB (aChain f g ma mb mc)) := by
  obtain ⟨r, h1, h2⟩ := ho.ex
  obtain ⟨r', h1', h2'⟩ := ho'.ex
  refine ⟨PTmono (pt_chain h1 h1' ha.pe hb.pe hc.pe hm) fun τ H Q o => ?_⟩
  exact le_chain h2 h2' (le_b o)
/-! ### what a sequence holds -/
def lstOf : PV → AH → Option (List PV)
  | .lst xs, _ => some xs
  | .ro xs, _ => some xs
  | .loc n, h => match h[n]? with
    | some (.lst xs) => some xs
    | _ => none
  | _, _ => none
def seqOf : PV → AH → Option (List PV)
  | .tup xs, _ => some xs
  | v, h => lstOf v h
theorem lst_of {ρ : List Addr} {h : AH} {H : Hp} {v : PV} {x : V} {xs : List PV} (R : Rep K ρ h H) (r : RV K ρ H v x) (e : lstOf v h = some xs) : ∃ p vs, x = .ref p ∧ SqL K.fr H p vs ∧ RVs K ρ H xs vs := by
  cases v with
  | lst ys => cases e; obtain ⟨p, vs, rfl, f, q⟩ := r.lst_inv; exact ⟨p, vs, rfl, f.sq, q⟩
  | ro ys => cases e; obtain ⟨p, vs, rfl, f, q⟩ := r.ro_inv; exact ⟨p, vs, rfl, f.sq, q⟩
  | loc n =>
    obtain ⟨p, rfl, ep⟩ := r.loc_inv
    unfold lstOf at e
    dsimp only at e
    split at e
    · rename_i ys eh
      cases e
      obtain ⟨vs, e1, q⟩ := R.obj n p _ ep eh
      exact ⟨p, vs, rfl, .inl (.inl e1), q⟩
    · cases e
  | _ => cases e
/-- a list that is no handed-in one -/
def ownOf : PV → AH → Option (List PV)
  | .ro _, _ => none
  | v, h => lstOf v h
theorem own_of {ρ : List Addr} {h : AH} {H : Hp} {v : PV} {x : V} {xs : List PV} (R : Rep K ρ h H) (r : RV K ρ H v x) (e : ownOf v h = some xs) : ∃ p vs, x = .ref p ∧ H p = some (.lst vs) ∧ RVs K ρ H xs vs := by
  cases v with
  | lst ys => cases e; obtain ⟨p, vs, rfl, f, q⟩ := r.lst_inv; exact ⟨p, vs, rfl, f.1, q⟩
  | ro ys => cases e
  | loc n =>
    obtain ⟨p, rfl, ep⟩ := r.loc_inv
    unfold ownOf lstOf at e
    dsimp only at e
    split at e
    · rename_i ys eh
      cases e
      obtain ⟨vs, e1, q⟩ := R.obj n p _ ep eh
      exact ⟨p, vs, rfl, e1, q⟩
    · cases e
  | _ => cases e
/-- a new list at the end of the heap -/
def new (o : AO) (h : AH) : Res PV := .ok (.loc h.length) (h ++ [o])
theorem new_lst {ρ : List Addr} {h : AH} {H : Hp} {τ : St} {Q : VK} {xs : List PV} {vs : List V} (R : Rep K ρ h H) (r : RVs K ρ H xs vs) (o : OutE K W ρ τ H (new (.lst xs) h) Q) : ∀ p, H p = none → Q (.ref p) (upd H p (.lst vs)) := fun p hp => by
  refine o (ρ ++ [p]) (upd H p (.lst vs)) (.ref p) (.push hp) (R.push hp ⟨vs, upd_same, r.mono (.push hp)⟩) (.loc ?_)
  rw [← R.len]; simp
theorem new_tup {ρ : List Addr} {h : AH} {H : Hp} {τ : St} {Q : VK} {xs : List PV} {vs : List V} (R : Rep K ρ h H) (r : RVs K ρ H xs vs) (o : OutE K W ρ τ H (.ok (.tup xs) h) Q) : ∀ p, H p = none → Q (.ref p) (upd H p (.tup vs)) := fun p hp =>
  o ρ (upd H p (.tup vs)) (.ref p) (.fresh hp) (R.fresh hp) (.tup vs (.inl ⟨.inl upd_same, R.notin hp⟩) r.len fun i x v e1 e2 => (r.at_ i x v e1 e2).mono (.fresh hp))
end
end AB

/-! AB3: the operators one by one -/
namespace AB
open PySem PySem.Spec
open PyProof.Rows hiding St
open L2
section
variable {X : Cx} {W : WX} {K : KW}
/-! ### ints alone -/
def fI (C : Int → Int → Bool) (g : Int → Int → PV) : F2
  | .int i, .int j, h => if C i j = true then .ok (g i j) h else .stuck
  | _, _, _ => .stuck
def fI0 (g : Int → Int → PV) : F2
  | .int i, .int j, h => .ok (g i j) h
  | _, _, _ => .stuck
theorem opa_I {C : Int → Int → Bool} {C' : Int → Int → Prop} {g : Int → Int → PV} {g' : Int → Int → V} (hC : ∀ i j, C i j = true → C' i j) (hg : ∀ ρ H i j, RV K ρ H (g i j) (g' i j)) : OpA K (rI C' g') (fI C g) := by
  intro ρ h H τ W x y v u Q R r1 r2 o
  cases v with
  | int i =>
    cases u with
    | int j =>
      have e1 := r1.int_inv; have e2 := r2.int_inv; subst e1; subst e2
      dsimp only [fI] at o
      by_cases c : C i j = true
      · rw [if_pos c] at o
        exact ⟨i, j, rfl, rfl, hC i j c, Out.done o R (hg ρ H i j)⟩
      · rw [if_neg c] at o; exact o.elim
    | _ => exact o.elim
  | _ => exact o.elim
theorem opa_I0 {g : Int → Int → PV} {g' : Int → Int → V} (hg : ∀ ρ H i j, RV K ρ H (g i j) (g' i j)) : OpA K (rI0 g') (fI0 g) := by
  intro ρ h H τ W x y v u Q R r1 r2 o
  cases v with
  | int i =>
    cases u with
    | int j =>
      have e1 := r1.int_inv; have e2 := r2.int_inv; subst e1; subst e2
      exact ⟨i, j, rfl, rfl, Out.done o R (hg ρ H i j)⟩
    | _ => exact o.elim
  | _ => exact o.elim
theorem jop {g : Value → Value → Sem Value} {r : R2} {f : F2} (a : OpR X g r) (b : OpA (cxKW X) r f) : JOp X g f := ⟨_, a, b⟩
def bMul (i j : Int) : Bool := (decide (-(2 ^ 64) < i) && decide (i < 2 ^ 64)) || (decide (-(2 ^ 64) < j) && decide (j < 2 ^ 64))
def bDiv (_ j : Int) : Bool := decide (0 < j) && decide (j < 1073741824)
def bPos (_ j : Int) : Bool := decide (0 < j)
def bPow (i j : Int) : Bool := decide (0 ≤ j) && decide (j ≤ 1000000) && decide (i.natAbs < 2 ^ 64)
def fSub : F2 := fI0 fun i j => .int (i - j)
def fMod : F2 := fI bPos fun i j => .int (i % j)
def fFdiv : F2 := fI bDiv fun i j => .int (i / j)
def fPow : F2 := fI bPow fun i j => .int (i ^ j.toNat)
def fShl : F2 := fI bPow fun i j => .int (i * 2 ^ j.toNat)
def fGt : F2 := fI0 fun i j => .bl (decide (j < i))
def fGe : F2 := fI0 fun i j => .bl (decide (j ≤ i))
def fLt : F2 := fI0 fun i j => .bl (decide (i < j))
def fLe : F2 := fI0 fun i j => .bl (decide (i ≤ j))
theorem j_sub : JOp X (binaryOp .Sub) fSub := jop op_sub (opa_I0 fun _ _ _ _ => .int _)
theorem j_mod : JOp X (binaryOp .Mod) fMod := jop op_mod (opa_I (fun i j c => by simpa [bPos] using c) fun _ _ _ _ => .int _)
theorem j_fdiv : JOp X (binaryOp .FloorDiv) fFdiv := jop op_fdiv (opa_I (fun i j c => by simpa [bDiv, CDiv] using c) fun _ _ _ _ => .int _)
theorem j_pow : JOp X (binaryOp .Pow) fPow := jop op_pow (opa_I (fun i j c => by simpa [bPow, CPow, and_assoc] using c) fun _ _ _ _ => .int _)
theorem j_shl : JOp X (binaryOp .LShift) fShl := jop op_shl (opa_I (fun i j c => by simpa [bPow, CPow, and_assoc] using c) fun _ _ _ _ => .int _)
theorem j_gt : JOp X (compareOp .Gt) fGt := jop op_gt (opa_I0 fun _ _ _ _ => .bl _)
theorem j_ge : JOp X (compareOp .GtE) fGe := jop op_ge (opa_I0 fun _ _ _ _ => .bl _)
theorem j_lt : JOp X (compareOp .Lt) fLt := jop op_lt (opa_I0 fun _ _ _ _ => .bl _)
theorem j_le : JOp X (compareOp .LtE) fLe := jop op_le (opa_I0 fun _ _ _ _ => .bl _)
/-! ### + -/
def fAdd : F2
  | .int i, .int j, h => .ok (.int (i + j)) h
  | .str x, .str y, h => if x.length + y.length ≤ sizeLine then .ok (.str (x ++ y)) h else .stuck
  | .tup xs, .tup ys, h => if xs.length + ys.length ≤ sizeLine then .ok (.tup (xs ++ ys)) h else .stuck
  | a, b, h => match ownOf a h, ownOf b h with
    | some xs, some ys => if xs.length + ys.length ≤ sizeLine then new (.lst (xs ++ ys)) h else .stuck
    | _, _ => .stuck
theorem fAdd_lst {a b : PV} {h : AH} {τ : St} {ρ : List Addr} {H : Hp} {Q : VK} {x y : V} (R : Rep K ρ h H) (r1 : RV K ρ H a x) (r2 : RV K ρ H b y)
    (o : OutE K W ρ τ H (match ownOf a h, ownOf b h with
      | some xs, some ys => if xs.length + ys.length ≤ sizeLine then new (.lst (xs ++ ys)) h else .stuck
      | _, _ => .stuck) Q) : rCat x y H Q := by
  split at o
  · rename_i xs ys e1 e2
    split at o
    · rename_i hz
      obtain ⟨p, vs, rfl, h1, q1⟩ := own_of R r1 e1
      obtain ⟨p', us, rfl, h2, q2⟩ := own_of R r2 e2
      refine ⟨p, p', vs, us, rfl, rfl, h1, h2, by rw [q1.len, q2.len]; exact hz, new_lst R (q1.append q2) o⟩
    · exact o.elim
  · exact o.elim
theorem j_add : JOp X (binaryOp .Add) fAdd := by
  refine jop (OpR.or op_add (OpR.or op_add_str (OpR.or op_catA op_cat))) ?_
  intro ρ h H τ W x y v u Q R r1 r2 o
  have lst : ∀ (a b : PV), RV (cxKW X) ρ H a x → RV (cxKW X) ρ H b y → OutE (cxKW X) W ρ τ H (match ownOf a h, ownOf b h with
      | some xs, some ys => if xs.length + ys.length ≤ sizeLine then new (.lst (xs ++ ys)) h else .stuck
      | _, _ => .stuck) Q → rCat x y H Q := fun a b q1 q2 o => fAdd_lst R q1 q2 o
  cases v with
  | int i =>
    cases u with
    | int j =>
      have e1 := r1.int_inv; have e2 := r2.int_inv; subst e1; subst e2
      exact .inl ⟨i, j, rfl, rfl, Out.done o R (.int _)⟩
    | _ => exact o.elim
  | str i =>
    cases u with
    | str j =>
      have e1 := r1.str_inv; have e2 := r2.str_inv; subst e1; subst e2
      unfold fAdd at o
      dsimp only at o
      split at o
      · rename_i hz
        exact .inr (.inl ⟨i, j, rfl, rfl, hz, Out.done o R (.str _)⟩)
      · exact o.elim
    | _ => exact o.elim
  | tup xs =>
    cases u with
    | tup ys =>
      obtain ⟨p, vs, rfl, f1, q1⟩ := r1.tup_inv
      obtain ⟨p', us, rfl, f2, q2⟩ := r2.tup_inv
      unfold fAdd at o
      dsimp only at o
      split at o
      · rename_i hz
        refine .inr (.inr (.inl ⟨p, p', vs, us, rfl, rfl, f1.sq, f2.sq, by rw [q1.len, q2.len]; exact hz, fun e => ?_, fun _ e => ?_, fun _ _ => ?_⟩))
        · have ex : xs = [] := by
            have := q1.len
            rw [e] at this
            exact List.eq_nil_of_length_eq_zero (by simpa using this.symm)
          subst ex
          exact Out.done o R r2
        · have ex : ys = [] := by
            have := q2.len
            rw [e] at this
            exact List.eq_nil_of_length_eq_zero (by simpa using this.symm)
          subst ex
          rw [List.append_nil] at o
          exact Out.done o R r1
        · exact new_tup R (q1.append q2) o
      · exact o.elim
    | _ => exact o.elim
  | lst xs => refine .inr (.inr (.inr (lst (.lst xs) u r1 r2 ?_))); cases u <;> exact o
  | loc n => refine .inr (.inr (.inr (lst (.loc n) u r1 r2 ?_))); cases u <;> exact o
  | _ => cases u <;> exact o.elim
/-! ### * -/
def fMul : F2
  | .int i, .int j, h => if bMul i j = true then .ok (.int (i * j)) h else .stuck
  | .tup xs, .int k, h => if -1000 ≤ k ∧ k ≤ 1000 ∧ xs.length ≤ 1000 then .ok (.tup (List.replicate k.toNat xs).flatten) h else .stuck
  | a, .int k, h => match ownOf a h with
    | some xs => if -(2 ^ 63) ≤ k ∧ k < 2 ^ 63 ∧ xs.length * k.toNat ≤ sizeLine then new (.lst (List.replicate k.toNat xs).flatten) h else .stuck
    | none => .stuck
  | _, _, _ => .stuck
theorem RVs.rep {ρ : List Addr} {H : Hp} {xs : List PV} {vs : List V} (r : RVs K ρ H xs vs) : ∀ k : Nat, RVs K ρ H (List.replicate k xs).flatten (List.replicate k vs).flatten
  | 0 => .nil
  | k + 1 => by
    rw [List.replicate_succ, List.replicate_succ, List.flatten_cons, List.flatten_cons]
    exact r.append (RVs.rep r k)
theorem j_mul : JOp X (binaryOp .Mult) fMul := by
  refine jop (OpR.or op_mul (OpR.or (OpR.or op_repT op_repT1) op_rep)) ?_
  intro ρ h H τ W x y v u Q R r1 r2 o
  have lst : ∀ (a : PV) (k : Int), RV (cxKW X) ρ H a x → y = .int k → OutE (cxKW X) W ρ τ H (match ownOf a h with
      | some xs => if -(2 ^ 63) ≤ k ∧ k < 2 ^ 63 ∧ xs.length * k.toNat ≤ sizeLine then new (.lst (List.replicate k.toNat xs).flatten) h else .stuck
      | none => .stuck) Q → rRep x y H Q := fun a k q1 ey o => by
    subst ey
    split at o
    · rename_i xs e1
      split at o
      · rename_i hz
        obtain ⟨p, vs, rfl, h1, q1⟩ := own_of R q1 e1
        exact ⟨p, k, vs, rfl, rfl, h1, hz.1, hz.2.1, by rw [q1.len]; exact hz.2.2, new_lst R (q1.rep _) o⟩
      · exact o.elim
    · exact o.elim
  cases v with
  | int i =>
    cases u with
    | int j =>
      have e1 := r1.int_inv; have e2 := r2.int_inv; subst e1; subst e2
      unfold fMul at o
      dsimp only at o
      split at o
      · rename_i c
        refine .inl ⟨i, j, rfl, rfl, by simpa [bMul, CMul] using c, Out.done o R (.int _)⟩
      · exact o.elim
    | _ => exact o.elim
  | tup xs =>
    cases u with
    | int k =>
      have e2 := r2.int_inv; subst e2
      obtain ⟨p, vs, rfl, f1, q1⟩ := r1.tup_inv
      unfold fMul at o
      dsimp only at o
      split at o
      · rename_i hz
        by_cases e1 : vs = [] ∨ k = 1
        · have e : (List.replicate k.toNat xs).flatten = xs := by
            rcases e1 with z | z
            · have : xs = [] := by
                have := q1.len
                rw [z] at this
                exact List.eq_nil_of_length_eq_zero (by simpa using this.symm)
              subst this; simp
            · subst z; simp
          rw [e] at o
          exact .inr (.inl (.inr ⟨p, k, vs, rfl, rfl, f1.sq, by omega, by omega, .inl ⟨e1, Out.done o R (.tup vs f1 q1.len q1.at_)⟩⟩))
        · have ev : vs ≠ [] := fun z => e1 (.inl z)
          by_cases e2 : k ≤ 0
          · have e : k.toNat = 0 := by omega
            rw [e] at o
            exact .inr (.inl (.inr ⟨p, k, vs, rfl, rfl, f1.sq, by omega, by omega, .inr ⟨ev, e2, new_tup R .nil o⟩⟩))
          · have e3 : k ≠ 1 := fun z => e1 (.inr z)
            exact .inr (.inl (.inl ⟨p, k, vs, rfl, rfl, f1.sq, ev, by omega, hz.2.1, by rw [q1.len]; exact hz.2.2, new_tup R (q1.rep _) o⟩))
      · exact o.elim
    | _ => exact o.elim
  | lst xs =>
    cases u with
    | int k => exact .inr (.inr (lst (.lst xs) k r1 r2.int_inv o))
    | _ => exact o.elim
  | loc n =>
    cases u with
    | int k => exact .inr (.inr (lst (.loc n) k r1 r2.int_inv o))
    | _ => exact o.elim
  | _ => cases u <;> exact o.elim
/-! ### ==, is None, in -/
def flat : PV → Option V
  | .non => some .non
  | .bl b => some (.bl b)
  | .int i => some (.int i)
  | .str x => some (.str x)
  | _ => none
theorem flat_of {ρ : List Addr} {H : Hp} {v : PV} {x y : V} (e : flat v = some y) (r : RV K ρ H v x) : x = y ∧ flatV x = true := by
  cases v <;> simp [flat] at e
  · subst e; exact ⟨r.non_inv, by rw [r.non_inv]; rfl⟩
  · subst e; exact ⟨r.bl_inv, by rw [r.bl_inv]; rfl⟩
  · subst e; exact ⟨r.int_inv, by rw [r.int_inv]; rfl⟩
  · subst e; exact ⟨r.str_inv, by rw [r.str_inv]; rfl⟩
def fEq : F2 := fun v u h => match flat v, flat u with
  | some x, some y => if scal x y = true then .ok (.bl (decide (x = y))) h else .stuck
  | _, _ => .stuck
def fNe : F2 := fun v u h => match flat v, flat u with
  | some x, some y => if scal x y = true then .ok (.bl (!decide (x = y))) h else .stuck
  | _, _ => .stuck
theorem j_eq : JOp X (compareOp .Eq) fEq := jop op_eq fun ρ h H τ W x y v u Q R r1 r2 o => by
  unfold fEq at o
  split at o
  · rename_i a b e1 e2
    obtain ⟨rfl, _⟩ := flat_of e1 r1
    obtain ⟨rfl, _⟩ := flat_of e2 r2
    split at o
    · rename_i c; exact ⟨c, Out.done o R (.bl _)⟩
    · exact o.elim
  · exact o.elim
theorem j_ne : JOp X (compareOp .NotEq) fNe := jop op_ne fun ρ h H τ W x y v u Q R r1 r2 o => by
  unfold fNe at o
  split at o
  · rename_i a b e1 e2
    obtain ⟨rfl, _⟩ := flat_of e1 r1
    obtain ⟨rfl, _⟩ := flat_of e2 r2
    split at o
    · rename_i c; exact ⟨c, Out.done o R (.bl _)⟩
    · exact o.elim
  · exact o.elim
def isNon : PV → Option Bool
  | .non => some true
  | .raw _ => none
  | _ => some false
theorem isNon_of {ρ : List Addr} {H : Hp} {v : PV} {x : V} {b : Bool} (e : isNon v = some b) (r : RV K ρ H v x) : decide (x = V.non) = b := by
  cases v <;> simp [isNon] at e <;> subst e
  · rw [r.non_inv]; rfl
  · rw [r.bl_inv]; rfl
  · rw [r.int_inv]; rfl
  · rw [r.str_inv]; rfl
  · obtain ⟨p, vs, rfl, _⟩ := r.tup_inv; rfl
  · obtain ⟨p, vs, rfl, _⟩ := r.lst_inv; rfl
  · obtain ⟨p, vs, rfl, _⟩ := r.ro_inv; rfl
  · obtain ⟨p, rfl, _⟩ := r.loc_inv; rfl
def fIsN : F2
  | v, .non, h => match isNon v with
    | some b => .ok (.bl b) h
    | none => .stuck
  | _, _, _ => .stuck
def fNotN : F2
  | v, .non, h => match isNon v with
    | some b => .ok (.bl (!b)) h
    | none => .stuck
  | _, _, _ => .stuck
theorem j_isN : JOp X (compareOp .Is) fIsN := jop op_isN fun ρ h H τ W x y v u Q R r1 r2 o => by
  cases u with
  | non =>
    dsimp only [fIsN] at o
    split at o
    · rename_i b e
      refine ⟨r2.non_inv, ?_⟩
      rw [isNon_of e r1]
      exact Out.done o R (.bl _)
    · exact o.elim
  | _ => cases v <;> exact o.elim
theorem j_notN : JOp X (compareOp .IsNot) fNotN := jop op_notN fun ρ h H τ W x y v u Q R r1 r2 o => by
  cases u with
  | non =>
    dsimp only [fNotN] at o
    split at o
    · rename_i b e
      refine ⟨r2.non_inv, ?_⟩
      rw [isNon_of e r1]
      exact Out.done o R (.bl _)
    · exact o.elim
  | _ => cases v <;> exact o.elim
def flats : List PV → Option (List V)
  | [] => some []
  | v :: r => match flat v, flats r with
    | some x, some xs => some (x :: xs)
    | _, _ => none
theorem flats_of {ρ : List Addr} {H : Hp} : ∀ {xs : List PV} {vs ys : List V}, flats xs = some ys → RVs K ρ H xs vs → vs = ys ∧ vs.all flatV = true
  | [], vs, ys, e, r => by
    cases e; rw [r.nil_inv]; exact ⟨rfl, rfl⟩
  | x :: xs, vs, ys, e, r => by
    unfold flats at e
    split at e
    · rename_i y ys' e1 e2
      cases e
      obtain ⟨v, vs', rfl, q, s⟩ := r.cons_inv
      obtain ⟨rfl, f1⟩ := flat_of e1 q
      obtain ⟨rfl, f2⟩ := flats_of e2 s
      exact ⟨rfl, by simp [f1, f2]⟩
    · cases e
theorem seq_of {ρ : List Addr} {h : AH} {H : Hp} {v : PV} {x : V} {xs : List PV} (R : Rep K ρ h H) (r : RV K ρ H v x) (e : seqOf v h = some xs) : ∃ p vs, x = .ref p ∧ (SqL K.fr H p vs ∨ SqT K.fr H p vs) ∧ RVs K ρ H xs vs := by
  cases v with
  | tup ys => cases e; obtain ⟨p, vs, rfl, f, q⟩ := r.tup_inv; exact ⟨p, vs, rfl, .inr f.sq, q⟩
  | lst ys => obtain ⟨p, vs, e1, f, q⟩ := lst_of (v := .lst ys) R r e; exact ⟨p, vs, e1, .inl f, q⟩
  | ro ys => obtain ⟨p, vs, e1, f, q⟩ := lst_of (v := .ro ys) R r e; exact ⟨p, vs, e1, .inl f, q⟩
  | loc n => obtain ⟨p, vs, e1, f, q⟩ := lst_of (v := .loc n) R r e; exact ⟨p, vs, e1, .inl f, q⟩
  | _ => cases e
/-- flat in a sequence of flat ones -/
def fIn : F2 := fun v u h => match flat v, seqOf u h with
  | some x, some ys => match flats ys with
    | some zs => .ok (.bl (inV x zs)) h
    | none => .stuck
  | _, _ => .stuck
def fNin : F2 := fun v u h => match flat v, seqOf u h with
  | some x, some ys => match flats ys with
    | some zs => .ok (.bl (!inV x zs)) h
    | none => .stuck
  | _, _ => .stuck
theorem j_in : JOp X (compareOp .In) fIn := jop op_in_seq fun ρ h H τ W x y v u Q R r1 r2 o => by
  unfold fIn at o
  split at o
  · rename_i a ys e1 e2
    split at o
    · rename_i zs e3
      obtain ⟨rfl, f1⟩ := flat_of e1 r1
      obtain ⟨p, vs, rfl, s, q⟩ := seq_of R r2 e2
      obtain ⟨rfl, f2⟩ := flats_of e3 q
      exact ⟨p, vs, rfl, s, f1, f2, Out.done o R (.bl _)⟩
    · exact o.elim
  · exact o.elim
theorem j_nin : JOp X (compareOp .NotIn) fNin := jop op_notIn_seq fun ρ h H τ W x y v u Q R r1 r2 o => by
  unfold fNin at o
  split at o
  · rename_i a ys e1 e2
    split at o
    · rename_i zs e3
      obtain ⟨rfl, f1⟩ := flat_of e1 r1
      obtain ⟨p, vs, rfl, s, q⟩ := seq_of R r2 e2
      obtain ⟨rfl, f2⟩ := flats_of e3 q
      exact ⟨p, vs, rfl, s, f1, f2, Out.done o R (.bl _)⟩
    · exact o.elim
  · exact o.elim
/-! ### one place -/
abbrev F1 := PV → AH → Res PV
def aUn (f : F1) (a : AE) : AE := fun σ h => (a σ h).bind fun x h1 => f x h1
def fNeg : F1
  | .int i, h => .ok (.int (-i)) h
  | _, _ => .stuck
theorem je_neg {a : Expr} {ma : AE} {pos : Pos} (ha : JE X W a ma) : JE X W (.UnaryOp .USub a pos) (aUn fNeg ma) :=
  ⟨PEmono (pe_un un_neg ha.pe) fun τ H Q ⟨ρ, h, σ, R, S, o⟩ => ⟨ρ, h, σ, R, S, (Out.bind (R := RV (cxKW X)) o).mono fun x H1 ⟨ρ1, v, h1, e1, R1, q1, o1⟩ => by
    cases v with
    | int i => exact ⟨i, q1.int_inv, Out.done o1 R1 (.int _)⟩
    | _ => exact o1.elim⟩⟩
/-! ### and, or, not, if -/
def aAnd (a b : AE) : AE := fun σ h => (a σ h).bind fun x h1 => match x with
  | .bl true => b σ h1
  | .bl false => .ok (.bl false) h1
  | _ => .stuck
def aOr (a b : AE) : AE := fun σ h => (a σ h).bind fun x h1 => match x with
  | .bl true => .ok (.bl true) h1
  | .bl false => b σ h1
  | _ => .stuck
def fNot : F1
  | .bl b, h => .ok (.bl (!b)) h
  | _, _ => .stuck
theorem je_one {op : BoolOp} {a : Expr} {ma : AE} {pos : Pos} (ha : JE X W a ma) : JE X W (.BoolOp op [a] pos) ma := ⟨pe_one ha.pe⟩
theorem je_and {a b : Expr} {rest : List Expr} {ma mb : AE} {pos : Pos} (ha : JE X W a ma) (hb : JE X W (.BoolOp .And (b :: rest) pos) mb) : JE X W (.BoolOp .And (a :: b :: rest) pos) (aAnd ma mb) :=
  ⟨PEmono (pe_and ha.pe hb.pe) fun τ H Q ⟨ρ, h, σ, R, S, o⟩ => ⟨ρ, h, σ, R, S, (Out.bind (R := RV (cxKW X)) o).mono fun x H1 ⟨ρ1, v, h1, e1, R1, q1, o1⟩ => by
    cases v with
    | bl k =>
      refine ⟨k, q1.bl_inv, ?_⟩
      cases k with
      | true => rw [if_pos rfl]; exact ⟨ρ1, h1, σ, R1, S.mono e1, o1⟩
      | false => rw [if_neg Bool.false_ne_true]; exact Out.done o1 R1 (.bl false)
    | _ => exact o1.elim⟩⟩
theorem je_or {a b : Expr} {rest : List Expr} {ma mb : AE} {pos : Pos} (ha : JE X W a ma) (hb : JE X W (.BoolOp .Or (b :: rest) pos) mb) : JE X W (.BoolOp .Or (a :: b :: rest) pos) (aOr ma mb) :=
  ⟨PEmono (pe_or ha.pe hb.pe) fun τ H Q ⟨ρ, h, σ, R, S, o⟩ => ⟨ρ, h, σ, R, S, (Out.bind (R := RV (cxKW X)) o).mono fun x H1 ⟨ρ1, v, h1, e1, R1, q1, o1⟩ => by
    cases v with
    | bl k =>
      refine ⟨k, q1.bl_inv, ?_⟩
      cases k with
      | false => rw [if_neg Bool.false_ne_true]; exact ⟨ρ1, h1, σ, R1, S.mono e1, o1⟩
      | true => rw [if_pos rfl]; exact Out.done o1 R1 (.bl true)
    | _ => exact o1.elim⟩⟩
theorem je_not {a : Expr} {ma : AE} {pos : Pos} (ha : JE X W a ma) : JE X W (.UnaryOp .Not a pos) (aUn fNot ma) :=
  ⟨PEmono (pe_not ha.pe) fun τ H Q ⟨ρ, h, σ, R, S, o⟩ => ⟨ρ, h, σ, R, S, (Out.bind (R := RV (cxKW X)) o).mono fun x H1 ⟨ρ1, v, h1, e1, R1, q1, o1⟩ => by
    cases v with
    | bl k => exact ⟨k, q1.bl_inv, Out.done o1 R1 (.bl _)⟩
    | _ => exact o1.elim⟩⟩
def tAnd (a b : AT) : AT := fun σ h => (a σ h).bind fun x h1 => if x = true then b σ h1 else .ok false h1
def tOr (a b : AT) : AT := fun σ h => (a σ h).bind fun x h1 => if x = true then .ok true h1 else b σ h1
def tNot (a : AT) : AT := fun σ h => (a σ h).bind fun x h1 => .ok (!x) h1
structure JW (X : Cx) (W : WX) (e : Expr) (m : AT) : Prop where
  pw : PW X e (LT (cxKW X) W m)
theorem jt_bool {e : Expr} {m : AT} (h : JW X W e m) : JT X W e m := ⟨h.pw.pt⟩
theorem jw_and1 {a : Expr} {ma : AT} {pos : Pos} (ha : JT X W a ma) : JW X W (.BoolOp .And [a] pos) ma := ⟨pw_and1 ha.pt⟩
theorem jw_or1 {a : Expr} {ma : AT} {pos : Pos} (ha : JT X W a ma) : JW X W (.BoolOp .Or [a] pos) ma := ⟨pw_or1 ha.pt⟩
theorem jw_and {a b : Expr} {rest : List Expr} {ma mb : AT} {pos : Pos} (ha : JT X W a ma) (hb : JW X W (.BoolOp .And (b :: rest) pos) mb) : JW X W (.BoolOp .And (a :: b :: rest) pos) (tAnd ma mb) :=
  ⟨PWmono (pw_and ha.pt hb.pw) fun τ H Q ⟨ρ, h, σ, R, S, o⟩ => ⟨ρ, h, σ, R, S, (Out.bind (R := fun _ _ (a b : Bool) => a = b) o).mono fun x H1 ⟨ρ1, v, h1, e1, R1, q1, o1⟩ => by
    subst q1
    cases v with
    | true => rw [if_pos rfl] at o1 ⊢; exact ⟨ρ1, h1, σ, R1, S.mono e1, o1⟩
    | false => rw [if_neg Bool.false_ne_true] at o1 ⊢; exact Out.done o1 R1 rfl⟩⟩
theorem jw_or {a b : Expr} {rest : List Expr} {ma mb : AT} {pos : Pos} (ha : JT X W a ma) (hb : JW X W (.BoolOp .Or (b :: rest) pos) mb) : JW X W (.BoolOp .Or (a :: b :: rest) pos) (tOr ma mb) :=
  ⟨PWmono (pw_or ha.pt hb.pw) fun τ H Q ⟨ρ, h, σ, R, S, o⟩ => ⟨ρ, h, σ, R, S, (Out.bind (R := fun _ _ (a b : Bool) => a = b) o).mono fun x H1 ⟨ρ1, v, h1, e1, R1, q1, o1⟩ => by
    subst q1
    cases v with
    | false => rw [if_neg Bool.false_ne_true] at o1 ⊢; exact ⟨ρ1, h1, σ, R1, S.mono e1, o1⟩
    | true => rw [if_pos rfl] at o1 ⊢; exact Out.done o1 R1 rfl⟩⟩
theorem jt_not {a : Expr} {ma : AT} {pos : Pos} (ha : JT X W a ma) : JT X W (.UnaryOp .Not a pos) (tNot ma) :=
  ⟨PTmono (pt_not ha.pt) fun τ H Q ⟨ρ, h, σ, R, S, o⟩ => ⟨ρ, h, σ, R, S, (Out.bind (R := fun _ _ (a b : Bool) => a = b) o).mono fun x H1 ⟨ρ1, v, h1, e1, R1, q1, o1⟩ => by
    subst q1; exact Out.done o1 R1 rfl⟩⟩
def aIf (c : AT) (a b : AE) : AE := fun σ h => (c σ h).bind fun x h1 => if x = true then a σ h1 else b σ h1
theorem je_if {c a b : Expr} {mc : AT} {ma mb : AE} {pos : Pos} (hc : JT X W c mc) (ha : JE X W a ma) (hb : JE X W b mb) : JE X W (.IfExp c a b pos) (aIf mc ma mb) :=
  ⟨PEmono (pe_ifExp hc.pt ha.pe hb.pe) fun τ H Q ⟨ρ, h, σ, R, S, o⟩ => ⟨ρ, h, σ, R, S, (Out.bind (R := fun _ _ (a b : Bool) => a = b) o).mono fun x H1 ⟨ρ1, v, h1, e1, R1, q1, o1⟩ => by
    subst q1
    cases v with
    | true => rw [if_pos rfl] at o1 ⊢; exact ⟨ρ1, h1, σ, R1, S.mono e1, o1⟩
    | false => rw [if_neg Bool.false_ne_true] at o1 ⊢; exact ⟨ρ1, h1, σ, R1, S.mono e1, o1⟩⟩⟩
/-- by a value's truth -/
def truth : PV → AH → Option Bool
  | .non, _ => some false
  | .bl b, _ => some b
  | .int i, _ => some (i != 0)
  | .str x, _ => if x.length ≤ sizeLine then some ((x.length : Int) != 0) else none
  | .loc n, h => match h[n]? with
    | some (.lst xs) => some !xs.isEmpty
    | some (.dK xs) => some !xs.isEmpty
    | _ => none
  | v, h => (seqOf v h).map fun xs => !xs.isEmpty
theorem RVs.emp {ρ : List Addr} {H : Hp} {xs : List PV} {vs : List V} (r : RVs K ρ H xs vs) : vs.isEmpty = xs.isEmpty := by
  cases xs with
  | nil => rw [r.nil_inv]; rfl
  | cons x xs => obtain ⟨v, vs', rfl, _⟩ := r.cons_inv; rfl
theorem truth_of {ρ : List Addr} {h : AH} {H : Hp} {v : PV} {x : V} {b : Bool} (R : Rep K ρ h H) (r : RV K ρ H v x) (e : truth v h = some b) : TruV K.fr x H b := by
  cases v with
  | non => cases e; rw [r.non_inv]; rfl
  | bl k => cases e; rw [r.bl_inv]; rfl
  | int i => cases e; rw [r.int_inv]; rfl
  | str s =>
    rw [r.str_inv]
    unfold truth at e
    dsimp only at e
    split at e
    · rename_i hz; cases e; exact ⟨hz, rfl⟩
    · cases e
  | tup xs =>
    obtain ⟨p, vs, rfl, f, q⟩ := r.tup_inv
    cases e
    exact .inr (.inl ⟨vs, f.sq, by rw [q.emp]⟩)
  | lst xs =>
    obtain ⟨p, vs, rfl, f, q⟩ := r.lst_inv
    cases e
    exact .inl ⟨vs, f.sq, by rw [q.emp]⟩
  | ro xs =>
    obtain ⟨p, vs, rfl, f, q⟩ := r.ro_inv
    cases e
    exact .inl ⟨vs, f.sq, by rw [q.emp]⟩
  | loc n =>
    obtain ⟨p, rfl, ep⟩ := r.loc_inv
    unfold truth at e
    dsimp only at e
    split at e
    · rename_i xs eh
      cases e
      obtain ⟨vs, e1, q⟩ := R.obj n p _ ep eh
      exact .inl ⟨vs, .inl (.inl e1), by rw [q.emp]⟩
    · rename_i xs eh
      cases e
      obtain ⟨vs, e1, q⟩ := R.obj n p _ ep eh
      refine .inr (.inr ⟨vs, e1, ?_⟩)
      have := congrArg List.isEmpty q.keys
      simp only [List.isEmpty_map] at this
      rw [this]
    · cases e
  | raw v => cases e
def aTr (m : AE) : AT := fun σ h => (m σ h).bind fun x h1 => match truth x h1 with
  | some b => .ok b h1
  | none => .stuck
theorem jt_truth {a : Expr} {ma : AE} (ha : JE X W a ma) (he : ∀ whole, isTrue a X.env whole = (do let v ← whole; standAt a.pos; holding [v] (truthy v)) := by intro _; rfl) : JT X W a (aTr ma) :=
  ⟨PTmono (pt_truth ha.pe he) fun τ H Q ⟨ρ, h, σ, R, S, o⟩ => ⟨ρ, h, σ, R, S, (Out.bind (R := RV (cxKW X)) o).mono fun x H1 ⟨ρ1, v, h1, e1, R1, q1, o1⟩ => by
    split at o1
    · rename_i b e
      exact ⟨b, truth_of R1 q1 e, Out.done o1 R1 rfl⟩
    · exact o1.elim⟩⟩
end
end AB

/-! AB4: displays, subscripts, slices, built-ins, methods of lists -/
namespace AB
open PySem PySem.Spec
open PyProof.Rows hiding St
open L2
section
variable {X : Cx} {W : WX} {K : KW}
/-! ### argument lists -/
def aNil : AL := fun _ h => .ok [] h
def aCons (a : AE) (r : AL) : AL := fun σ h => (a σ h).bind fun x h1 => (r σ h1).bind fun xs h2 => .ok (x :: xs) h2
theorem ja_nil : JA X W [] aNil := ⟨PAmono pa_nil fun τ H Q ⟨ρ, h, σ, R, S, o⟩ => Out.done o R RVs.nil⟩
theorem ja_cons {e : Expr} {es : List Expr} {m : AE} {r : AL} (ha : JE X W e m) (hr : JA X W es r) (hs : starEach (e :: es) X.env = (false, eval e X.env) :: starEach es X.env := by rfl) : JA X W (e :: es) (aCons m r) :=
  ⟨PAmono (pa_cons ha.pe hr.pa hs) fun τ H Q ⟨ρ, h, σ, R, S, o⟩ => ⟨ρ, h, σ, R, S, (Out.bind (R := RV (cxKW X)) o).mono fun x H1 ⟨ρ1, v, h1, e1, R1, q1, o1⟩ =>
    ⟨ρ1, h1, σ, R1, S.mono e1, (Out.bind (R := RVs (cxKW X)) o1).mono fun xs H2 ⟨ρ2, vs, h2, e2, R2, q2, o2⟩ => Out.done o2 R2 (.cons (q1.mono e2) q2)⟩⟩⟩
def aTup (l : AL) : AE := fun σ h => (l σ h).bind fun xs h1 => if xs.length ≤ sizeLine then .ok (.tup xs) h1 else .stuck
def aLst (l : AL) : AE := fun σ h => (l σ h).bind fun xs h1 => if xs.length ≤ sizeLine then new (.lst xs) h1 else .stuck
theorem je_tup {es : List Expr} {l : AL} {k : Nat} {pos : Pos} (h : JA X W es l) : JE X W (.Tuple es k pos) (aTup l) :=
  ⟨PEmono (pe_tup h.pa) fun τ H Q ⟨ρ, h, σ, R, S, o⟩ => ⟨ρ, h, σ, R, S, (Out.bind (R := RVs (cxKW X)) o).mono fun xs H1 ⟨ρ1, vs, h1, e1, R1, q1, o1⟩ => by
    split at o1
    · rename_i hz; exact ⟨by rw [q1.len]; exact hz, new_tup R1 q1 o1⟩
    · exact o1.elim⟩⟩
theorem je_lst {es : List Expr} {l : AL} {pos : Pos} (h : JA X W es l) : JE X W (.List es pos) (aLst l) :=
  ⟨PEmono (pe_lst h.pa) fun τ H Q ⟨ρ, h, σ, R, S, o⟩ => ⟨ρ, h, σ, R, S, (Out.bind (R := RVs (cxKW X)) o).mono fun xs H1 ⟨ρ1, vs, h1, e1, R1, q1, o1⟩ => by
    split at o1
    · rename_i hz; exact ⟨by rw [q1.len]; exact hz, new_lst R1 q1 o1⟩
    · exact o1.elim⟩⟩
/-! ### a[i] -/
theorem atI_of {ρ : List Addr} {H : Hp} {xs : List PV} {vs : List V} {i : Int} {x : PV} (r : RVs K ρ H xs vs) (e : atI xs i = some x) : ∃ v, atI vs i = some v ∧ RV K ρ H x v := by
  unfold atI at e ⊢
  rw [r.len]
  cases c : ixN xs.length i with
  | none => rw [c] at e; cases e
  | some j => rw [c] at e; exact r.get e
def fIx : F2
  | .str z, .int i, h => if z.length ≤ sizeLine then (match atI z.cps.toList i with
    | some c => .ok (.str ⟨#[c]⟩) h
    | none => .stuck) else .stuck
  | a, .int i, h => match seqOf a h with
    | some xs => match atI xs i with
      | some v => .ok v h
      | none => .stuck
    | none => .stuck
  | _, _, _ => .stuck
theorem ixa_seq : OpA K (rIx K.fr) fIx := by
  intro ρ h H τ W x y v u Q R r1 r2 o
  have seq : ∀ (a : PV) (i : Int), RV K ρ H a x → y = .int i → OutE K W ρ τ H (match seqOf a h with
    | some xs => match atI xs i with
      | some v => .ok v h
      | none => .stuck
    | none => .stuck) Q → rIx K.fr x y H Q := fun a i q1 ey o => by
      subst ey
      split at o
      · rename_i xs e1
        split at o
        · rename_i v e2
          obtain ⟨p, vs, rfl, s, q⟩ := seq_of R q1 e1
          obtain ⟨w, e3, q3⟩ := atI_of q e2
          rcases s with s | s
          · exact .inl ⟨p, vs, i, w, rfl, rfl, s, e3, Out.done o R q3⟩
          · exact .inr (.inl ⟨p, vs, i, w, rfl, rfl, s, e3, Out.done o R q3⟩)
        · exact o.elim
      · exact o.elim
  cases v with
  | str z =>
    cases u with
    | int i =>
      dsimp only [fIx] at o
      split at o
      · rename_i hz
        split at o
        · rename_i c e
          exact .inr (.inr ⟨z, i, c, r1.str_inv, r2.int_inv, hz, e, Out.done o R (.str _)⟩)
        · exact o.elim
      · exact o.elim
    | _ => exact o.elim
  | tup xs =>
    cases u with
    | int i => exact seq (.tup xs) i r1 r2.int_inv o
    | _ => exact o.elim
  | lst xs =>
    cases u with
    | int i => exact seq (.lst xs) i r1 r2.int_inv o
    | _ => exact o.elim
  | ro xs =>
    cases u with
    | int i => exact seq (.ro xs) i r1 r2.int_inv o
    | _ => exact o.elim
  | loc n =>
    cases u with
    | int i => exact seq (.loc n) i r1 r2.int_inv o
    | _ => exact o.elim
  | _ => cases u <;> exact o.elim
theorem je_ix {a b : Expr} {ma mb : AE} {pos : Pos} (ha : JE X W a ma) (hb : JE X W b mb) (hs : PlainIx b := by exact fun _ _ => rfl) : JE X W (.Subscript a b pos) (aOp fIx ma mb) :=
  ⟨PEmono (pe_ix ix_seq ha.pe hb.pe hs) fun τ H Q o => le_op ixa_seq o⟩
/-! ### a[lo:hi] -/
abbrev AP := ASt → AH → Res (Option Int)
structure JP (X : Cx) (W : WX) (e : Option Expr) (m : AP) : Prop where
  po : PO X e (fun τ H Q => ∃ ρ h σ, Rep (cxKW X) ρ h H ∧ RS (cxKW X) ρ H σ τ ∧ Out (cxKW X) W (fun _ _ (a b : Option Int) => a = b) ρ τ H (m σ h) Q)
theorem POmono {e : Option Expr} {t t' : TO} (p : PO X e t) (i : ∀ σ H Q, t' σ H Q → t σ H Q) : PO X e t' := ⟨fun pins s σ H Q I h => p.run pins s σ H Q I (i σ H Q h)⟩
def aNoP : AP := fun _ h => .ok none h
def aSoP (m : AE) : AP := fun σ h => (m σ h).bind fun x h1 => match x with
  | .int i => .ok (some i) h1
  | _ => .stuck
theorem jp_none : JP X W none aNoP := ⟨POmono po_none fun τ H Q ⟨ρ, h, σ, R, S, o⟩ => Out.done o R rfl⟩
theorem jp_some {e : Expr} {m : AE} (he : JE X W e m) : JP X W (some e) (aSoP m) :=
  ⟨POmono (po_some he.pe) fun τ H Q ⟨ρ, h, σ, R, S, o⟩ => ⟨ρ, h, σ, R, S, (Out.bind (R := RV (cxKW X)) o).mono fun x H1 ⟨ρ1, v, h1, e1, R1, q1, o1⟩ => by
    cases v with
    | int i => exact ⟨i, q1.int_inv, Out.done o1 R1 rfl⟩
    | _ => exact o1.elim⟩⟩
def cutP {α : Type} (xs : List α) (lo hi : Option Int) : List α := (xs.drop (HT.sIx xs.length 0 lo)).take (HT.sIx xs.length xs.length hi - HT.sIx xs.length 0 lo)
theorem RVs.cut {ρ : List Addr} {H : Hp} {xs : List PV} {vs : List V} (r : RVs K ρ H xs vs) (lo hi : Option Int) : RVs K ρ H (cutP xs lo hi) (cutV vs lo hi) := by
  unfold cutP cutV
  rw [r.len]
  exact (r.drop _).take _
theorem cutP_all {α : Type} {xs : List α} {lo hi : Option Int} (h : HT.sIx xs.length 0 lo = 0 ∧ HT.sIx xs.length xs.length hi = xs.length) : cutP xs lo hi = xs := by
  unfold cutP
  rw [h.1, h.2]
  simp
def fSl (v : PV) (lo hi : Option Int) (h : AH) : Res PV := match v with
  | .str z => if z.length ≤ sizeLine then .ok (.str (cutS z lo hi)) h else .stuck
  | .tup xs => .ok (.tup (cutP xs lo hi)) h
  | v => match lstOf v h with
    | some xs => new (.lst (cutP xs lo hi)) h
    | none => .stuck
def aSl (m : AE) (lo hi : AP) : AE := fun σ h => (m σ h).bind fun x h1 => (lo σ h1).bind fun l h2 => (hi σ h2).bind fun u h3 => fSl x l u h3
theorem sl_all : SlR X (fun x lo hi H Q => rSlA X.K x lo hi H Q ∨ (rSlL X.K x lo hi H Q ∨ rSlS x lo hi H Q)) := SlR.or sl_tupA (SlR.or sl_list sl_str)
theorem je_sl {e : Expr} {lo hi : Option Expr} {m : AE} {ml mh : AP} {pos p2 : Pos} (he : JE X W e m) (hl : JP X W lo ml) (hh : JP X W hi mh) : JE X W (.Subscript e (.Slice lo hi none p2) pos) (aSl m ml mh) := by
  refine ⟨PEmono (pe_slice sl_all he.pe hl.po hh.po) fun τ H Q ⟨ρ, h, σ, R, S, o⟩ => ⟨ρ, h, σ, R, S, (Out.bind (R := RV (cxKW X)) o).mono fun x H1 ⟨ρ1, v, h1, e1, R1, q1, o1⟩ => ?_⟩⟩
  refine ⟨ρ1, h1, σ, R1, S.mono e1, (Out.bind (R := fun _ _ (a b : Option Int) => a = b) o1).mono fun l H2 ⟨ρ2, l', h2, e2, R2, q2, o2⟩ => ?_⟩
  refine ⟨ρ2, h2, σ, R2, (S.mono e1).mono e2, (Out.bind (R := fun _ _ (a b : Option Int) => a = b) o2).mono fun u H3 ⟨ρ3, u', h3, e3, R3, q3, o3⟩ => ?_⟩
  subst q2; subst q3
  have q := (q1.mono e2).mono e3
  have lst : ∀ w : PV, RV (cxKW X) ρ3 H3 w x → OutE (cxKW X) W ρ3 τ H3 (match lstOf w h3 with
    | some xs => new (.lst (cutP xs l' u')) h3
    | none => .stuck) Q → rSlL X.K x l' u' H3 Q := fun w qw o => by
      split at o
      · rename_i xs e
        obtain ⟨p, vs, rfl, s, r⟩ := lst_of R3 qw e
        exact ⟨p, vs, rfl, s, new_lst R3 (r.cut _ _) o⟩
      · exact o.elim
  cases v with
  | str z =>
    dsimp only [fSl] at o3
    split at o3
    · rename_i hz
      exact .inr (.inr ⟨z, q.str_inv, hz, Out.done o3 R3 (.str _)⟩)
    · exact o3.elim
  | tup xs =>
    obtain ⟨p, vs, rfl, f, r⟩ := q.tup_inv
    refine .inl ⟨p, vs, rfl, f.sq, fun hall => ?_, fun _ => new_tup R3 (r.cut _ _) o3⟩
    dsimp only [fSl] at o3
    rw [cutP_all (xs := xs) (by rw [← r.len]; exact hall)] at o3
    exact Out.done o3 R3 (.tup vs f r.len r.at_)
  | lst xs => exact .inr (.inl (lst (.lst xs) q o3))
  | ro xs => exact .inr (.inl (lst (.ro xs) q o3))
  | loc n => exact .inr (.inl (lst (.loc n) q o3))
  | _ => exact o3.elim
/-- xs[::-1] of a list -/
def fRev : F1 := fun v h => match lstOf v h with
  | some xs => new (.lst xs.reverse) h
  | none => .stuck
theorem je_revL {e : Expr} {m : AE} {k : Nat} {pos p1 p2 p3 : Pos} (he : JE X W e m) : JE X W (.Subscript e (.Slice none none (some (.UnaryOp .USub (.Constant (.int 1) k p1) p2)) p3) pos) (aUn fRev m) :=
  ⟨PEmono (pe_revL he.pe) fun τ H Q ⟨ρ, h, σ, R, S, o⟩ => ⟨ρ, h, σ, R, S, (Out.bind (R := RV (cxKW X)) o).mono fun x H1 ⟨ρ1, v, h1, e1, R1, q1, o1⟩ => by
    dsimp only [fRev] at o1
    split at o1
    · rename_i xs e
      obtain ⟨p, vs, rfl, s, r⟩ := lst_of R1 q1 e
      exact ⟨p, vs, rfl, s, new_lst R1 r.reverse o1⟩
    · exact o1.elim⟩⟩
/-! ### built-ins -/
abbrev FN := List PV → AH → Res PV
def CallA (K : KW) (r : List V → Hp → VK → Prop) (f : FN) : Prop := ∀ (ρ : List Addr) (h : AH) (H : Hp) (τ : St) (W : WX) (xs : List PV) (vs : List V) (Q : VK), Rep K ρ h H → RVs K ρ H xs vs → OutE K W ρ τ H (f xs h) Q → r vs H Q
structure JFn (X : Cx) (g : Value) (f : FN) : Prop where
  ex : ∃ r, CallR X g r ∧ CallA (cxKW X) r f
theorem jfn {g : Value} {r : List V → Hp → VK → Prop} {f : FN} (a : CallR X g r) (b : CallA (cxKW X) r f) : JFn X g f := ⟨_, a, b⟩
def aFn (f : FN) (l : AL) : AE := fun σ h => (l σ h).bind f
theorem le_fn {r : List V → Hp → VK → Prop} {f : FN} {l : AL} (hf : CallA K r f) {τ : St} {H : Hp} {Q : VK} (o : LE K W (aFn f l) τ H Q) : tCB r (LL K W l) τ H Q := by
  obtain ⟨ρ, h, σ, R, S, o⟩ := o
  exact ⟨ρ, h, σ, R, S, (Out.bind (R := RVs K) o).mono fun x H1 ⟨ρ1, v, h1, e1, R1, q1, o1⟩ => hf ρ1 h1 H1 τ W v x Q R1 q1 o1⟩
theorem je_bi {id : String} {f : FN} {l : AL} {x : Str} {p pos : Pos} {e : Expr} {es : List Expr} (hc : JFn X (.builtin id) f) (hm : X.mg x = none) (hv : bootBuiltins x = some (.builtin id)) (ha : JA X W (e :: es) l) (hg : Gl X x := by rfl) (hn : x ≠ "__name__" := by decide) (hdb : (x == ("__debug__" : Str)) = false := by decide)
    (he : starEach (e :: es) X.env = (false, eval e X.env) :: starEach es X.env := by rfl) (hpl : (backTo pos (starEach es X.env)).any (·.1) = false := by rfl) : JE X W (.Call (.Name x p) (e :: es) [] pos) (aFn f l) := by
  obtain ⟨r, h1, h2⟩ := hc.ex
  exact ⟨PEmono (pe_callB h1 hg hm hv ha.pa hn hdb he hpl) fun τ H Q o => le_fn h2 o⟩
theorem je_ty {T : String} {f : FN} {l : AL} {x : Str} {p pos : Pos} {e : Expr} {es : List Expr} (hc : JFn X (.type T) f) (hm : X.mg x = none) (hv : bootBuiltins x = some (.type T)) (ha : JA X W (e :: es) l) (hg : Gl X x := by rfl) (hn : x ≠ "__name__" := by decide) (hdb : (x == ("__debug__" : Str)) = false := by decide)
    (he : starEach (e :: es) X.env = (false, eval e X.env) :: starEach es X.env := by rfl) (hpl : (backTo pos (starEach es X.env)).any (·.1) = false := by rfl) : JE X W (.Call (.Name x p) (e :: es) [] pos) (aFn f l) := by
  obtain ⟨r, h1, h2⟩ := hc.ex
  exact ⟨PEmono (pe_callTy h1 hg hm hv ha.pa hn hdb he hpl) fun τ H Q o => le_fn h2 o⟩
theorem one_inv {ρ : List Addr} {H : Hp} {a : PV} {vs : List V} (r : RVs K ρ H [a] vs) : ∃ v, vs = [v] ∧ RV K ρ H a v := by
  obtain ⟨v, t, rfl, q, s⟩ := r.cons_inv
  rw [s.nil_inv]; exact ⟨v, rfl, q⟩
theorem two_inv {ρ : List Addr} {H : Hp} {a b : PV} {vs : List V} (r : RVs K ρ H [a, b] vs) : ∃ v w, vs = [v, w] ∧ RV K ρ H a v ∧ RV K ρ H b w := by
  obtain ⟨v, t, rfl, q, s⟩ := r.cons_inv
  obtain ⟨w, rfl, q2⟩ := one_inv s
  exact ⟨v, w, rfl, q, q2⟩
def fnAbs : FN
  | [.int i], h => .ok (.int (if i < 0 then -i else i)) h
  | _, _ => .stuck
theorem j_abs : JFn X (.builtin "abs") fnAbs := jfn call_abs fun ρ h H τ W xs vs Q R r o => by
  unfold fnAbs at o
  split at o
  · obtain ⟨v, rfl, q⟩ := one_inv r
    rw [q.int_inv]; exact ⟨_, rfl, Out.done o R (.int _)⟩
  · exact o.elim
def fnInt : FN
  | [.int i], h => .ok (.int i) h
  | [.bl k], h => .ok (.int (if k then 1 else 0)) h
  | _, _ => .stuck
theorem j_int : JFn X (.type "int") fnInt := jfn call_int1 fun ρ h H τ W xs vs Q R r o => by
  unfold fnInt at o
  split at o
  · obtain ⟨v, rfl, q⟩ := one_inv r
    rw [q.int_inv]; exact .inl ⟨_, rfl, Out.done o R (.int _)⟩
  · obtain ⟨v, rfl, q⟩ := one_inv r
    rw [q.bl_inv]; exact .inr ⟨_, rfl, Out.done o R (.int _)⟩
  · exact o.elim
def fnStr : FN
  | [.int i], h => if i.natAbs.log2 < 1920 then .ok (.str (toString i)) h else .stuck
  | _, _ => .stuck
theorem j_strOf : JFn X (.type "str") fnStr := jfn call_str_int fun ρ h H τ W xs vs Q R r o => by
  unfold fnStr at o
  split at o
  · split at o
    · rename_i hz
      obtain ⟨v, rfl, q⟩ := one_inv r
      rw [q.int_inv]; exact ⟨_, rfl, hz, Out.done o R (.str _)⟩
    · exact o.elim
  · exact o.elim
def fnLen : FN
  | [.str z], h => if z.length ≤ sizeLine then .ok (.int z.length) h else .stuck
  | [v], h => match seqOf v h with
    | some xs => .ok (.int xs.length) h
    | none => .stuck
  | _, _ => .stuck
theorem j_len : JFn X (.builtin "len") fnLen := jfn call_len fun ρ h H τ W xs vs Q R r o => by
  unfold fnLen at o
  split at o
  · obtain ⟨v, rfl, q⟩ := one_inv r
    split at o
    · rename_i hz
      rw [q.str_inv]; exact ⟨_, _, rfl, ⟨hz, rfl⟩, Out.done o R (.int _)⟩
    · exact o.elim
  · obtain ⟨v, rfl, q⟩ := one_inv r
    split at o
    · rename_i xs e
      obtain ⟨p, vs, rfl, s, q⟩ := seq_of R q e
      refine ⟨.ref p, xs.length, rfl, ?_, Out.done o R (.int _)⟩
      rcases s with s | s
      · exact .inl ⟨vs, s, q.len.symm⟩
      · exact .inr ⟨vs, s, q.len.symm⟩
    · exact o.elim
  · exact o.elim
def fnList : FN
  | [v], h => match seqOf v h with
    | some xs => new (.lst xs) h
    | none => .stuck
  | _, _ => .stuck
theorem j_list : JFn X (.type "list") fnList := jfn call_list_of fun ρ h H τ W xs vs Q R r o => by
  unfold fnList at o
  split at o
  · obtain ⟨v, rfl, q⟩ := one_inv r
    split at o
    · rename_i xs e
      obtain ⟨p, vs, rfl, s, q⟩ := seq_of R q e
      exact ⟨p, vs, rfl, s, new_lst R q o⟩
    · exact o.elim
  · exact o.elim
def fnTuple : FN
  | [v], h => match seqOf v h with
    | some xs => .ok (.tup xs) h
    | none => .stuck
  | _, _ => .stuck
theorem j_tuple : JFn X (.type "tuple") fnTuple := jfn call_tuple_of fun ρ h H τ W xs vs Q R r o => by
  unfold fnTuple at o
  split at o
  · rename_i v
    obtain ⟨x, rfl, q⟩ := one_inv r
    split at o
    · rename_i xs e
      cases v with
      | tup ys =>
        cases e
        obtain ⟨p, vs, rfl, f, q'⟩ := q.tup_inv
        exact ⟨p, vs, rfl, .inr ⟨f.sq, Out.done o R q⟩⟩
      | lst ys => obtain ⟨p, vs, rfl, s, q⟩ := lst_of (v := .lst ys) R q e; exact ⟨p, vs, rfl, .inl ⟨s, new_tup R q o⟩⟩
      | ro ys => obtain ⟨p, vs, rfl, s, q⟩ := lst_of (v := .ro ys) R q e; exact ⟨p, vs, rfl, .inl ⟨s, new_tup R q o⟩⟩
      | loc n => obtain ⟨p, vs, rfl, s, q⟩ := lst_of (v := .loc n) R q e; exact ⟨p, vs, rfl, .inl ⟨s, new_tup R q o⟩⟩
      | _ => cases e
    · exact o.elim
  · exact o.elim
/-- ints in a sequence -/
def intsOf : List PV → Option (List Int)
  | [] => some []
  | .int i :: r => (intsOf r).map fun l => i :: l
  | _ :: _ => none
theorem intsOf_eq : ∀ {xs : List PV} {ns : List Int}, intsOf xs = some ns → xs = ns.map PV.int
  | [], _, e => by cases e; rfl
  | x :: xs, ns, e => by
    cases x with
    | int i =>
      unfold intsOf at e
      cases c : intsOf xs with
      | none => rw [c] at e; cases e
      | some l => rw [c] at e; cases e; rw [intsOf_eq c]; rfl
    | _ => cases e
theorem intsOf_map (ns : List Int) : intsOf (ns.map PV.int) = some ns := by
  induction ns with
  | nil => rfl
  | cons n ns ih => simp [intsOf, ih]
theorem ints_at {ρ : List Addr} {h : AH} {H : Hp} {v : PV} {x : V} {ns : List Int} (R : Rep K ρ h H) (r : RV K ρ H v x) (e : (lstOf v h).bind intsOf = some ns) : ∃ p, x = .ref p ∧ SqL K.fr H p (ns.map V.int) := by
  cases c : lstOf v h with
  | none => rw [c] at e; cases e
  | some xs =>
    rw [c] at e
    have e' := intsOf_eq e
    subst e'
    obtain ⟨p, vs, rfl, s, q⟩ := lst_of R r c
    rw [q.ints] at s
    exact ⟨p, rfl, s⟩
/-- sorted(list of ints), below 64 -/
def fnSorted : FN
  | [v], h => match (lstOf v h).bind intsOf with
    | some ns => if ns.length < 64 then new (.lst ((ns.mergeSort (fun a b => decide (a ≤ b))).map .int)) h else .stuck
    | none => .stuck
  | _, _ => .stuck
theorem sort_the {ns ns' : List Int} (p : ns'.Perm ns) (s : ns'.Pairwise (· ≤ ·)) : ns' = ns.mergeSort (fun a b => decide (a ≤ b)) := by
  have h2 : (ns.mergeSort (fun a b => decide (a ≤ b))).Pairwise (· ≤ ·) := by
    have := List.pairwise_mergeSort (le := fun (a b : Int) => decide (a ≤ b)) (fun a b c => by simp; omega) (fun a b => by simp; omega) ns
    exact this.imp (fun h => by simpa using h)
  exact List.Perm.eq_of_pairwise (le := fun (a b : Int) => a ≤ b) (fun a b _ _ h1 h2 => by omega) s h2 (p.trans (List.mergeSort_perm ns _).symm)
theorem j_sorted : JFn X (.builtin "sorted") fnSorted := jfn cr_sorted fun ρ h H τ W xs vs Q R r o => by
  unfold fnSorted at o
  split at o
  · obtain ⟨v, rfl, q⟩ := one_inv r
    split at o
    · rename_i ns e
      split at o
      · rename_i hz
        obtain ⟨p, rfl, s⟩ := ints_at R q e
        refine ⟨p, ns, rfl, s, hz, fun ns' l hp hs hl => ?_⟩
        rw [sort_the hp hs]
        exact new_lst R (.of_ints _) o l hl
      · exact o.elim
    · exact o.elim
  · exact o.elim
/-- max(list of ints), min, sum -/
def fnMax : FN
  | [.int i, .int j], h => .ok (.int (if j > i then j else i)) h
  | [v], h => match (lstOf v h).bind intsOf with
    | some (n :: ns) => .ok (.int (ns.foldl max n)) h
    | _ => .stuck
  | _, _ => .stuck
def fnMin : FN
  | [.int i, .int j], h => .ok (.int (if j < i then j else i)) h
  | [v], h => match (lstOf v h).bind intsOf with
    | some (n :: ns) => .ok (.int (ns.foldl min n)) h
    | _ => .stuck
  | _, _ => .stuck
theorem foldl_max_le (ns : List Int) : ∀ n, n ≤ ns.foldl max n ∧ (∀ y ∈ ns, y ≤ ns.foldl max n) ∧ (ns.foldl max n = n ∨ ns.foldl max n ∈ ns) := by
  induction ns with
  | nil => intro n; simp
  | cons a r ih =>
    intro n
    obtain ⟨h1, h2, h3⟩ := ih (max n a)
    rw [List.foldl_cons]
    refine ⟨by omega, fun y hy => ?_, ?_⟩
    · rcases List.mem_cons.mp hy with rfl | hy
      · omega
      · exact h2 y hy
    · rcases h3 with h3 | h3
      · rw [h3]
        by_cases c : n ≤ a
        · right; rw [Int.max_eq_right c]; exact List.mem_cons_self
        · left; omega
      · right; exact List.mem_cons_of_mem _ h3
theorem foldl_min_le (ns : List Int) : ∀ n, ns.foldl min n ≤ n ∧ (∀ y ∈ ns, ns.foldl min n ≤ y) ∧ (ns.foldl min n = n ∨ ns.foldl min n ∈ ns) := by
  induction ns with
  | nil => intro n; simp
  | cons a r ih =>
    intro n
    obtain ⟨h1, h2, h3⟩ := ih (min n a)
    rw [List.foldl_cons]
    refine ⟨by omega, fun y hy => ?_, ?_⟩
    · rcases List.mem_cons.mp hy with rfl | hy
      · omega
      · exact h2 y hy
    · rcases h3 with h3 | h3
      · rw [h3]
        by_cases c : a ≤ n
        · right; rw [Int.min_eq_right c]; exact List.mem_cons_self
        · left; omega
      · right; exact List.mem_cons_of_mem _ h3
theorem j_max (hc : X.calm = true) : JFn X (.builtin "max") fnMax := jfn (CallR.or (call_max2 hc) (cr_max hc)) fun ρ h H τ W xs vs Q R r o => by
  unfold fnMax at o
  split at o
  · obtain ⟨v, w, rfl, q1, q2⟩ := two_inv r
    rw [q1.int_inv, q2.int_inv]; exact .inl ⟨_, _, rfl, Out.done o R (.int _)⟩
  · obtain ⟨v, rfl, q⟩ := one_inv r
    split at o
    · rename_i n ns e
      obtain ⟨p, rfl, s⟩ := ints_at R q e
      refine .inr ⟨p, n :: ns, rfl, s, by simp, fun m hm hy => ?_⟩
      obtain ⟨h1, h2, h3⟩ := foldl_max_le ns n
      have em : m = ns.foldl max n := by
        have a1 : m ≤ ns.foldl max n := by
          rcases List.mem_cons.mp hm with rfl | hm
          · exact h1
          · exact h2 m hm
        have a2 : ns.foldl max n ≤ m := by
          rcases h3 with h3 | h3
          · rw [h3]; exact hy n List.mem_cons_self
          · exact hy _ (List.mem_cons_of_mem _ h3)
        omega
      rw [em]; exact Out.done o R (.int _)
    · exact o.elim
  · exact o.elim
theorem j_min (hc : X.calm = true) : JFn X (.builtin "min") fnMin := jfn (CallR.or (call_min2 hc) (cr_min hc)) fun ρ h H τ W xs vs Q R r o => by
  unfold fnMin at o
  split at o
  · obtain ⟨v, w, rfl, q1, q2⟩ := two_inv r
    rw [q1.int_inv, q2.int_inv]; exact .inl ⟨_, _, rfl, Out.done o R (.int _)⟩
  · obtain ⟨v, rfl, q⟩ := one_inv r
    split at o
    · rename_i n ns e
      obtain ⟨p, rfl, s⟩ := ints_at R q e
      refine .inr ⟨p, n :: ns, rfl, s, by simp, fun m hm hy => ?_⟩
      obtain ⟨h1, h2, h3⟩ := foldl_min_le ns n
      have em : m = ns.foldl min n := by
        have a1 : ns.foldl min n ≤ m := by
          rcases List.mem_cons.mp hm with rfl | hm
          · exact h1
          · exact h2 m hm
        have a2 : m ≤ ns.foldl min n := by
          rcases h3 with h3 | h3
          · rw [h3]; exact hy n List.mem_cons_self
          · exact hy _ (List.mem_cons_of_mem _ h3)
        omega
      rw [em]; exact Out.done o R (.int _)
    · exact o.elim
  · exact o.elim
def fnSum : FN
  | [v], h => match (lstOf v h).bind intsOf with
    | some ns => .ok (.int ns.sum) h
    | _ => .stuck
  | _, _ => .stuck
theorem j_sum (hc : X.calm = true) : JFn X (.builtin "sum") fnSum := jfn (cr_sum hc) fun ρ h H τ W xs vs Q R r o => by
  unfold fnSum at o
  split at o
  · obtain ⟨v, rfl, q⟩ := one_inv r
    split at o
    · rename_i ns e
      obtain ⟨p, rfl, s⟩ := ints_at R q e
      exact ⟨p, ns, rfl, s, Out.done o R (.int _)⟩
    · exact o.elim
  · exact o.elim
def boolsOf : List PV → Option (List Bool)
  | [] => some []
  | .bl i :: r => (boolsOf r).map fun l => i :: l
  | _ :: _ => none
theorem boolsOf_eq : ∀ {xs : List PV} {ns : List Bool}, boolsOf xs = some ns → xs = ns.map PV.bl
  | [], _, e => by cases e; rfl
  | x :: xs, ns, e => by
    cases x with
    | bl i =>
      unfold boolsOf at e
      cases c : boolsOf xs with
      | none => rw [c] at e; cases e
      | some l => rw [c] at e; cases e; rw [boolsOf_eq c]; rfl
    | _ => cases e
theorem boolsOf_map (ns : List Bool) : boolsOf (ns.map PV.bl) = some ns := by
  induction ns with
  | nil => rfl
  | cons n ns ih => simp [boolsOf, ih]
theorem bools_at {ρ : List Addr} {h : AH} {H : Hp} {v : PV} {x : V} {ns : List Bool} (R : Rep K ρ h H) (r : RV K ρ H v x) (e : (lstOf v h).bind boolsOf = some ns) : ∃ p, x = .ref p ∧ SqL K.fr H p (ns.map V.bl) := by
  cases c : lstOf v h with
  | none => rw [c] at e; cases e
  | some xs =>
    rw [c] at e
    have e' := boolsOf_eq e
    subst e'
    obtain ⟨p, vs, rfl, s, q⟩ := lst_of R r c
    rw [q.bools] at s
    exact ⟨p, rfl, s⟩
def fnAny : FN
  | [v], h => match (lstOf v h).bind boolsOf with
    | some ns => .ok (.bl (ns.any id)) h
    | _ => .stuck
  | _, _ => .stuck
def fnAll : FN
  | [v], h => match (lstOf v h).bind boolsOf with
    | some ns => .ok (.bl (ns.all id)) h
    | _ => .stuck
  | _, _ => .stuck
theorem j_any (hc : X.calm = true) : JFn X (.builtin "any") fnAny := jfn (cr_any hc) fun ρ h H τ W xs vs Q R r o => by
  unfold fnAny at o
  split at o
  · obtain ⟨v, rfl, q⟩ := one_inv r
    split at o
    · rename_i ns e
      obtain ⟨p, rfl, s⟩ := bools_at R q e
      exact ⟨p, ns, rfl, s, Out.done o R (.bl _)⟩
    · exact o.elim
  · exact o.elim
theorem j_all (hc : X.calm = true) : JFn X (.builtin "all") fnAll := jfn (cr_all hc) fun ρ h H τ W xs vs Q R r o => by
  unfold fnAll at o
  split at o
  · obtain ⟨v, rfl, q⟩ := one_inv r
    split at o
    · rename_i ns e
      obtain ⟨p, rfl, s⟩ := bools_at R q e
      exact ⟨p, ns, rfl, s, Out.done o R (.bl _)⟩
    · exact o.elim
  · exact o.elim
/-! ### isinstance -/
def tyN : PV → AH → Option String
  | .non, _ => some "NoneType"
  | .bl _, _ => some "bool"
  | .int _, _ => some "int"
  | .str _, _ => some "str"
  | .tup _, _ => some "tuple"
  | .lst _, _ => some "list"
  | .ro _, _ => some "list"
  | .loc n, h => match h[n]? with
    | some (.lst _) => some "list"
    | some (.dK _) => some "dict"
    | some (.dT _) => some "dict"
    | some (.fK _) => none
    | none => none
  | .raw _, _ => none
theorem tyN_of {ρ : List Addr} {h : AH} {H : Hp} {v : PV} {x : V} {n : String} (R : Rep K ρ h H) (r : RV K ρ H v x) (e : tyN v h = some n) : TyX K.fr H x (.type n) := by
  cases v with
  | non => cases e; rw [r.non_inv]; exact .base .non
  | bl k => cases e; rw [r.bl_inv]; exact .base (.bl _)
  | int i => cases e; rw [r.int_inv]; exact .base (.int _)
  | str s => cases e; rw [r.str_inv]; exact .base (.str _)
  | tup xs =>
    cases e
    obtain ⟨p, vs, rfl, f, q⟩ := r.tup_inv
    rcases f with ⟨f | ⟨o, f⟩, _⟩ | ⟨o, its, n, hk, hc, _⟩
    · exact .base (.tup f)
    · exact .fTuple f
    · exact .kTuple hk hc
  | lst xs =>
    cases e
    obtain ⟨p, vs, rfl, f, q⟩ := r.lst_inv
    exact .base (.lst f.1)
  | ro xs =>
    cases e
    obtain ⟨p, vs, rfl, f, q⟩ := r.ro_inv
    rcases f with ⟨f | ⟨o, f⟩, _⟩ | ⟨o, its, n, hk, hc, _⟩
    · exact .base (.lst f)
    · exact .base (.frz f)
    · exact .kList hk hc
  | loc m =>
    obtain ⟨p, rfl, ep⟩ := r.loc_inv
    unfold tyN at e
    dsimp only at e
    split at e
    · rename_i xs eh; cases e
      obtain ⟨vs, e1, q⟩ := R.obj m p _ ep eh
      exact .base (.lst e1)
    · rename_i xs eh; cases e
      obtain ⟨vs, e1, q⟩ := R.obj m p _ ep eh
      exact .base (.dK e1)
    · rename_i xs eh; cases e
      obtain ⟨vs, e1, q⟩ := R.obj m p _ ep eh
      exact .base (.dT e1)
    · cases e
    · cases e
  | raw v => cases e
def isiB (a b : String) : Option Bool := match a, b with
  | "NoneType", "int" | "NoneType", "bool" | "NoneType", "str" | "NoneType", "tuple" | "NoneType", "list" => some false
  | "bool", "int" | "bool", "bool" => some true
  | "bool", "str" | "bool", "tuple" | "bool", "list" => some false
  | "int", "int" => some true
  | "int", "bool" | "int", "str" | "int", "tuple" | "int", "list" => some false
  | "str", "str" => some true
  | "str", "int" | "str", "bool" | "str", "tuple" | "str", "list" => some false
  | "tuple", "tuple" => some true
  | "tuple", "int" | "tuple", "bool" | "tuple", "str" | "tuple", "list" => some false
  | "list", "list" => some true
  | "list", "int" | "list", "bool" | "list", "str" | "list", "tuple" => some false
  | "dict", "int" | "dict", "bool" | "dict", "str" | "dict", "tuple" | "dict", "list" => some false
  | _, _ => none
theorem isiB_ok {K : PySem.W.Frag} {a b : String} {r : Bool} (e : isiB a b = some r) : PySem.W.kitOne K (.type a) (.type b) = some r := by
  refine kit_ty ?_
  unfold isiB at e
  split at e <;> first | (cases e; decide +kernel) | cases e
def fnIsi : FN
  | [v, .raw (.ty b)], h => match (tyN v h).bind fun a => isiB a b with
    | some r => .ok (.bl r) h
    | none => .stuck
  | _, _ => .stuck
theorem j_isi : JFn X (.builtin "isinstance") fnIsi := jfn call_isi fun ρ h H τ W xs vs Q R r o => by
  unfold fnIsi at o
  split at o
  · rename_i v b
    obtain ⟨x, y, rfl, q1, q2⟩ := two_inv r
    split at o
    · rename_i k e
      cases q2
      cases c : tyN v h with
      | none => rw [c] at e; cases e
      | some a =>
        rw [c] at e
        exact ⟨x, .ty b, .type a, .type b, k, rfl, .ty b, tyN_of R q1 c, isiB_ok e, Out.done o R (.bl _)⟩
    · exact o.elim
  · exact o.elim
/-- the name of a built-in type -/
theorem je_bty {x : Str} {n : String} {pos : Pos} (hm : X.mg x = none) (hv : bootBuiltins x = some (.type n)) (hg : Gl X x := by rfl) (hn : x ≠ "__name__" := by decide) (hd : (x == ("__debug__" : Str)) = false := by decide) : JE X W (.Name x pos) (aC (.raw (.ty n))) :=
  je_c (pe_bltn (v := .ty n) hg hm hv rfl hn hd) fun _ _ => .raw _
/-! ### list(range(..)), tuple(range(..)) -/
def rgP (a b : Int) : List PV := (List.range (b - a).toNat).map fun i => PV.int (a + (i : Nat))
theorem RVs.rg {ρ : List Addr} {H : Hp} (a b : Int) : RVs K ρ H (rgP a b) (rgV a b) := by
  have e1 : rgP a b = ((List.range (b - a).toNat).map fun i => (a + (i : Nat) : Int)).map PV.int := by unfold rgP; rw [List.map_map]; rfl
  have e2 : rgV a b = ((List.range (b - a).toNat).map fun i => (a + (i : Nat) : Int)).map V.int := by unfold rgV; rw [List.map_map]; rfl
  rw [e1, e2]
  exact .of_ints _
def bRg (a b : Int) : Bool := decide (-(2 ^ 62) ≤ a) && decide (a < 2 ^ 62) && decide (-(2 ^ 62) ≤ b) && decide (b < 2 ^ 62) && decide ((b - a).toNat ≤ 2 ^ 24)
theorem bRg_ok {a b : Int} (h : bRg a b = true) : RgOk a b := by
  simp [bRg] at h
  obtain ⟨⟨⟨⟨h1, h2⟩, h3⟩, h4⟩, h5⟩ := h
  exact ⟨h1, h2, h3, h4, by omega⟩
def aLstRg1 (m : AE) : AE := fun σ h => (m σ h).bind fun x h1 => match x with
  | .int n => if bRg 0 n = true then new (.lst (rgP 0 n)) h1 else .stuck
  | _ => .stuck
def aTupRg1 (m : AE) : AE := fun σ h => (m σ h).bind fun x h1 => match x with
  | .int n => if bRg 0 n = true then .ok (.tup (rgP 0 n)) h1 else .stuck
  | _ => .stuck
theorem je_lstRg1 {a : Expr} {m : AE} {p p2 pos pos2 : Pos} (hc : X.calm = true) (hm : X.mg "list" = none) (hm2 : X.mg "range" = none) (ha : JE X W a m) (hg : Gl X "list" := by rfl) (hg2 : Gl X "range" := by rfl)
    (na : starEach [.Call (.Name "range" p2) [a] [] pos2] X.env = (false, eval (.Call (.Name "range" p2) [a] [] pos2) X.env) :: starEach [] X.env := by rfl) (na2 : starEach [a] X.env = (false, eval a X.env) :: starEach [] X.env := by rfl) :
    JE X W (.Call (.Name "list" p) [.Call (.Name "range" p2) [a] [] pos2] [] pos) (aLstRg1 m) :=
  ⟨PEmono (pe_listRg hc hg hm (prg_1 hg2 hm2 ha.pe na2) na) fun τ H Q ⟨ρ, h, σ, R, S, o⟩ => ⟨ρ, h, σ, R, S, (Out.bind (R := RV (cxKW X)) o).mono fun x H1 ⟨ρ1, v, h1, e1, R1, q1, o1⟩ => by
    cases v with
    | int n =>
      dsimp only at o1
      split at o1
      · rename_i c
        exact ⟨n, q1.int_inv, bRg_ok c, new_lst R1 (.rg 0 n) o1⟩
      · exact o1.elim
    | _ => exact o1.elim⟩⟩
theorem je_tupRg1 {a : Expr} {m : AE} {p p2 pos pos2 : Pos} (hc : X.calm = true) (hm : X.mg "tuple" = none) (hm2 : X.mg "range" = none) (ha : JE X W a m) (hg : Gl X "tuple" := by rfl) (hg2 : Gl X "range" := by rfl)
    (na : starEach [.Call (.Name "range" p2) [a] [] pos2] X.env = (false, eval (.Call (.Name "range" p2) [a] [] pos2) X.env) :: starEach [] X.env := by rfl) (na2 : starEach [a] X.env = (false, eval a X.env) :: starEach [] X.env := by rfl) :
    JE X W (.Call (.Name "tuple" p) [.Call (.Name "range" p2) [a] [] pos2] [] pos) (aTupRg1 m) :=
  ⟨PEmono (pe_tupRg hc hg hm (prg_1 hg2 hm2 ha.pe na2) na) fun τ H Q ⟨ρ, h, σ, R, S, o⟩ => ⟨ρ, h, σ, R, S, (Out.bind (R := RV (cxKW X)) o).mono fun x H1 ⟨ρ1, v, h1, e1, R1, q1, o1⟩ => by
    cases v with
    | int n =>
      dsimp only at o1
      split at o1
      · rename_i c
        exact ⟨n, q1.int_inv, bRg_ok c, new_tup R1 (.rg 0 n) o1⟩
      · exact o1.elim
    | _ => exact o1.elim⟩⟩
/-! ### methods of lists -/
abbrev FM := PV → List PV → AH → Res PV
def MtA (K : KW) (T : String) (r : V → List V → Hp → VK → Prop) (f : FM) : Prop := ∀ (ρ : List Addr) (h : AH) (H : Hp) (τ : St) (W : WX) (v : PV) (x : V) (xs : List PV) (vs : List V) (Q : VK), Rep K ρ h H → RV K ρ H v x → RVs K ρ H xs vs → OutE K W ρ τ H (f v xs h) Q → r x vs H Q
def TyA (T : String) (f : PV → AH → Bool) : Prop := ∀ (K : KW) (ρ : List Addr) (h : AH) (H : Hp) (v : PV) (x : V), Rep K ρ h H → RV K ρ H v x → f v h = true → tyV K.fr T x H
structure JM (X : Cx) (T : String) (name : Str) (f : FM) : Prop where
  ex : ∃ id r, PlainAttrs T ∧ Slot T name id ∧ typeOf (.builtin id) = pure (.type "method_descriptor") ∧ MtR X id r ∧ MtA (cxKW X) T r f
def isL (v : PV) (h : AH) : Bool := (lstOf v h).isSome
theorem tya_list : TyA "list" isL := fun K ρ h H v x R r e => by
  unfold isL at e
  cases c : lstOf v h with
  | none => rw [c] at e; cases e
  | some xs =>
    obtain ⟨p, vs, rfl, s, q⟩ := lst_of R r c
    exact .inl ⟨rfl, vs, s⟩
/-- o.m(args): o first, its kind looked at, then the arguments -/
def aM (ty : PV → AH → Bool) (f : FM) (o : AE) (l : AL) : AE := fun σ h => (o σ h).bind fun x h1 => if ty x h1 = true then (l σ h1).bind fun xs h2 => f x xs h2 else .stuck
theorem je_m {T : String} {ty : PV → AH → Bool} {name : Str} {f : FM} {o : Expr} {e : Expr} {es : List Expr} {mo : AE} {l : AL} {apos cpos : Pos} (hm : JM X T name f) (ht : TyA T ty) (ho : JE X W o mo) (ha : JA X W (e :: es) l)
    (hbase : attributeBase o name X.env (eval o X.env) = eval o X.env := by rfl)
    (hfew : ((backTo cpos (starEach (e :: es) X.env)).all (fun x => !x.1) && (backToKw cpos (keywordEach [] X.env)).all (fun x => x.1.isSome)
      && decide ((e :: es).length + ([] : List Keyword).length + (if ([] : List Keyword).isEmpty then 0 else 1) < 30)) = true := by rfl)
    (hline : (apos.endLine == cpos.line) = true := by rfl) (hs : starEach (e :: es) X.env = (false, eval e X.env) :: starEach es X.env := by rfl) (hplain : (backTo cpos (starEach es X.env)).any (·.1) = false := by rfl) :
    JE X W (.Call (.Attribute o name apos) (e :: es) [] cpos) (aM ty f mo l) := by
  obtain ⟨id, r, pa, slot, hty, hmt, hma⟩ := hm.ex
  refine ⟨PEmono (pe_bm pa slot hty hmt ho.pe ha.pa hbase hfew hline hs hplain) fun τ H Q ⟨ρ, h, σ, R, S, o⟩ => ⟨ρ, h, σ, R, S, (Out.bind (R := RV (cxKW X)) o).mono fun x H1 ⟨ρ1, v, h1, e1, R1, q1, o1⟩ => ?_⟩⟩
  split at o1
  · rename_i c
    refine ⟨ht _ ρ1 h1 H1 v x R1 q1 c, ρ1, h1, σ, R1, S.mono e1, (Out.bind (R := RVs (cxKW X)) o1).mono fun xs H2 ⟨ρ2, vs, h2, e2, R2, q2, o2⟩ => ?_⟩
    exact hma ρ2 h2 H2 τ W v x vs xs Q R2 (q1.mono e2) q2 o2
  · exact o1.elim
theorem je_m0 {T : String} {ty : PV → AH → Bool} {name : Str} {f : FM} {o : Expr} {mo : AE} {apos cpos : Pos} (hm : JM X T name f) (ht : TyA T ty) (ho : JE X W o mo)
    (hbase : attributeBase o name X.env (eval o X.env) = eval o X.env := by rfl) (hline : (apos.endLine == cpos.line) = true := by rfl) :
    JE X W (.Call (.Attribute o name apos) [] [] cpos) (aM ty f mo aNil) := by
  obtain ⟨id, r, pa, slot, hty, hmt, hma⟩ := hm.ex
  refine ⟨PEmono (pe_bm0 pa slot hty hmt ho.pe hbase hline) fun τ H Q ⟨ρ, h, σ, R, S, o⟩ => ⟨ρ, h, σ, R, S, (Out.bind (R := RV (cxKW X)) o).mono fun x H1 ⟨ρ1, v, h1, e1, R1, q1, o1⟩ => ?_⟩⟩
  split at o1
  · rename_i c
    exact ⟨ht _ ρ1 h1 H1 v x R1 q1 c, hma ρ1 h1 H1 τ W v x [] [] Q R1 q1 .nil o1⟩
  · exact o1.elim
/-- a list that is written: by its number -/
def put (n : Nat) (o : AO) (v : PV) (h : AH) : Res PV := .ok v (h.set n o)
theorem put_lst {ρ : List Addr} {h : AH} {H : Hp} {τ : St} {Q : VK} {n : Nat} {p : Addr} {xs : List PV} {vs : List V} {v : PV} {x : V} (R : Rep K ρ h H) (ep : ρ[n]? = some p) {ws : List V} (el : H p = some (.lst ws)) (r : RVs K ρ H xs vs) (rv : RV K ρ H v x) (o : OutE K W ρ τ H (put n (.lst xs) v h) Q) : Q x (upd H p (.lst vs)) :=
  o ρ (upd H p (.lst vs)) x (.write ep (nfL el)) (R.write ep (nfL el) ⟨vs, upd_same, r.mono (.write ep (nfL el))⟩) (rv.mono (.write ep (nfL el)))
theorem loc_lst {ρ : List Addr} {h : AH} {H : Hp} {n : Nat} {x : V} {xs : List PV} (R : Rep K ρ h H) (r : RV K ρ H (.loc n) x) (e : h[n]? = some (.lst xs)) : ∃ p vs, x = .ref p ∧ ρ[n]? = some p ∧ H p = some (.lst vs) ∧ RVs K ρ H xs vs := by
  obtain ⟨p, rfl, ep⟩ := r.loc_inv
  obtain ⟨vs, e1, q⟩ := R.obj n p _ ep e
  exact ⟨p, vs, rfl, ep, e1, q⟩
def mAppend : FM
  | .loc n, [y], h => match h[n]? with
    | some (.lst xs) => if xs.length < sizeLine then put n (.lst (xs ++ [y])) .non h else .stuck
    | _ => .stuck
  | _, _, _ => .stuck
theorem j_append : JM X "list" "append" mAppend := ⟨_, _, PySem.F.plainAttrs_list, PySem.F.slot_list_append, PySem.F.type_list_append, mt_append, fun ρ h H τ W v x xs vs Q R r rs o => by
  unfold mAppend at o
  split at o
  · rename_i n y
    split at o
    · rename_i ys e
      split at o
      · rename_i hz
        obtain ⟨p, us, rfl, ep, e1, q⟩ := loc_lst R r e
        obtain ⟨w, rfl, q2⟩ := one_inv rs
        exact ⟨p, us, w, rfl, rfl, e1, by rw [q.len]; exact hz, put_lst R ep e1 (q.append (.cons q2 .nil)) .non o⟩
      · exact o.elim
    · exact o.elim
  · exact o.elim⟩
def mExtend : FM
  | .loc n, [b], h => match h[n]?, ownOf b h with
    | some (.lst xs), some ys => if xs.length + ys.length ≤ sizeLine then put n (.lst (xs ++ ys)) .non h else .stuck
    | _, _ => .stuck
  | _, _, _ => .stuck
theorem j_extend : JM X "list" "extend" mExtend := ⟨_, _, PySem.F.plainAttrs_list, PySem.F.slot_list_extend, PySem.F.type_list_extend, mt_extend, fun ρ h H τ W v x xs vs Q R r rs o => by
  unfold mExtend at o
  split at o
  · rename_i n b
    split at o
    · rename_i ys zs e e2
      split at o
      · rename_i hz
        obtain ⟨p, us, rfl, ep, e1, q⟩ := loc_lst R r e
        obtain ⟨w, rfl, q2⟩ := one_inv rs
        obtain ⟨p2, ws, rfl, e3, q3⟩ := own_of R q2 e2
        exact ⟨p, p2, us, ws, rfl, rfl, e1, e3, by rw [q.len, q3.len]; exact hz, put_lst R ep e1 (q.append q3) .non o⟩
      · exact o.elim
    · exact o.elim
  · exact o.elim⟩
def mPop : FM
  | .loc n, [], h => match h[n]? with
    | some (.lst xs) => match xs[xs.length - 1]? with
      | some y => put n (.lst xs.dropLast) y h
      | none => .stuck
    | _ => .stuck
  | .loc n, [.int i], h => match h[n]? with
    | some (.lst xs) => if -(2 ^ 63) ≤ i ∧ i < 2 ^ 63 then (match ixN xs.length i with
      | some k => match xs[k]? with
        | some y => put n (.lst (xs.eraseIdx k)) y h
        | none => .stuck
      | none => .stuck) else .stuck
    | _ => .stuck
  | _, _, _ => .stuck
theorem RVs.dropLast {ρ : List Addr} {H : Hp} {xs : List PV} {vs : List V} (r : RVs K ρ H xs vs) : RVs K ρ H xs.dropLast vs.dropLast := by
  rw [List.dropLast_eq_take, List.dropLast_eq_take, r.len]; exact r.take _
theorem j_pop : JM X "list" "pop" mPop := ⟨_, _, PySem.F.plainAttrs_list, PySem.F.slot_list_pop, PySem.F.type_list_pop, MtR.or mt_pop mt_popAt, fun ρ h H τ W v x xs vs Q R r rs o => by
  unfold mPop at o
  split at o
  · rename_i n
    split at o
    · rename_i ys e
      split at o
      · rename_i y e2
        obtain ⟨p, us, rfl, ep, e1, q⟩ := loc_lst R r e
        obtain ⟨w, e3, q3⟩ := q.get e2
        rw [rs.nil_inv]
        exact .inl ⟨p, us, w, rfl, rfl, e1, by rw [q.len]; exact e3, put_lst R ep e1 q.dropLast q3 o⟩
      · exact o.elim
    · exact o.elim
  · rename_i n i
    split at o
    · rename_i ys e
      split at o
      · rename_i hi
        split at o
        · rename_i k ek
          split at o
          · rename_i y e2
            obtain ⟨p, us, rfl, ep, e1, q⟩ := loc_lst R r e
            obtain ⟨w, e3, q3⟩ := q.get e2
            obtain ⟨z, rfl, qz⟩ := one_inv rs
            rw [qz.int_inv]
            have es := (ixN_seq ek).1
            exact .inr ⟨p, us, i, k, w, rfl, rfl, e1, hi.1, hi.2, by rw [q.len]; exact es, e3, put_lst R ep e1 (q.eraseIdx k) q3 o⟩
          · exact o.elim
        · exact o.elim
      · exact o.elim
    · exact o.elim
  · exact o.elim⟩
def mInsert : FM
  | .loc n, [.int i, y], h => match h[n]? with
    | some (.lst xs) => if xs.length < sizeLine ∧ 0 ≤ i ∧ i < 2 ^ 63 then put n (.lst (xs.take i.toNat ++ [y] ++ xs.drop i.toNat)) .non h else .stuck
    | _ => .stuck
  | _, _, _ => .stuck
theorem j_insert : JM X "list" "insert" mInsert := ⟨_, _, PySem.F.plainAttrs_list, PySem.F.slot_list_insert, PySem.F.type_list_insert, mt_insert, fun ρ h H τ W v x xs vs Q R r rs o => by
  unfold mInsert at o
  split at o
  · rename_i n i y
    split at o
    · rename_i ys e
      split at o
      · rename_i hz
        obtain ⟨p, us, rfl, ep, e1, q⟩ := loc_lst R r e
        obtain ⟨z, w, rfl, qz, q2⟩ := two_inv rs
        rw [qz.int_inv]
        exact ⟨p, us, i, w, rfl, rfl, e1, by rw [q.len]; exact hz.1, hz.2.1, hz.2.2, put_lst R ep e1 (((q.take _).append (.cons q2 .nil)).append (q.drop _)) .non o⟩
      · exact o.elim
    · exact o.elim
  · exact o.elim⟩
end
end AB

/-! AB5: freezing; statements, loops, comprehensions, defs -/
namespace AB
open PySem PySem.Spec
open PyProof.Rows hiding St
open L2
/-! ### equality is decided -/
mutual
def PV.eqb : PV → PV → Bool
  | .non, .non => true
  | .bl a, .bl b => a == b
  | .int a, .int b => decide (a = b)
  | .str a, .str b => decide (a = b)
  | .tup a, .tup b => PV.eqbs a b
  | .lst a, .lst b => PV.eqbs a b
  | .ro a, .ro b => PV.eqbs a b
  | .loc a, .loc b => decide (a = b)
  | .raw a, .raw b => decide (a = b)
  | _, _ => false
termination_by structural x => x
def PV.eqbs : List PV → List PV → Bool
  | [], [] => true
  | a :: r, b :: s => PV.eqb a b && PV.eqbs r s
  | _, _ => false
termination_by structural x => x
end
mutual
theorem PV.eqb_iff : ∀ (a b : PV), PV.eqb a b = true ↔ a = b
  | .non, b => by cases b <;> simp [PV.eqb]
  | .bl a, b => by cases b <;> simp [PV.eqb]
  | .int a, b => by cases b <;> simp [PV.eqb]
  | .str a, b => by cases b <;> simp [PV.eqb]
  | .tup a, b => by cases b <;> simp [PV.eqb]; exact PV.eqbs_iff a _
  | .lst a, b => by cases b <;> simp [PV.eqb]; exact PV.eqbs_iff a _
  | .ro a, b => by cases b <;> simp [PV.eqb]; exact PV.eqbs_iff a _
  | .loc a, b => by cases b <;> simp [PV.eqb]
  | .raw a, b => by cases b <;> simp [PV.eqb]
theorem PV.eqbs_iff : ∀ (a b : List PV), PV.eqbs a b = true ↔ a = b
  | [], b => by cases b <;> simp [PV.eqbs]
  | x :: r, b => by
    cases b with
    | nil => simp [PV.eqbs]
    | cons y s =>
      rw [PV.eqbs, Bool.and_eq_true, PV.eqb_iff x y, PV.eqbs_iff r s]
      simp
end
instance : DecidableEq PV := fun a b => decidable_of_iff _ (PV.eqb_iff a b)
instance : DecidableEq AO
  | .lst a, .lst b => decidable_of_iff (a = b) ⟨fun h => by rw [h], fun h => by cases h; rfl⟩
  | .dK a, .dK b => decidable_of_iff (a = b) ⟨fun h => by rw [h], fun h => by cases h; rfl⟩
  | .dT a, .dT b => decidable_of_iff (a = b) ⟨fun h => by rw [h], fun h => by cases h; rfl⟩
  | .lst _, .dK _ => isFalse fun h => by cases h
  | .lst _, .dT _ => isFalse fun h => by cases h
  | .dK _, .lst _ => isFalse fun h => by cases h
  | .dK _, .dT _ => isFalse fun h => by cases h
  | .dT _, .lst _ => isFalse fun h => by cases h
  | .dT _, .dK _ => isFalse fun h => by cases h
  | .fK a, .fK b => decidable_of_iff (a = b) ⟨fun h => by rw [h], fun h => by cases h; rfl⟩
  | .fK _, .lst _ => isFalse fun h => by cases h
  | .fK _, .dK _ => isFalse fun h => by cases h
  | .fK _, .dT _ => isFalse fun h => by cases h
  | .lst _, .fK _ => isFalse fun h => by cases h
  | .dK _, .fK _ => isFalse fun h => by cases h
  | .dT _, .fK _ => isFalse fun h => by cases h
/-! ### freezing -/
mutual
/-- v without numbers from k on: f tells what stands for an object's items -/
def frzW (k : Nat) (h : AH) (f : List PV → Option (List PV)) : PV → Option PV
  | .tup xs => (frzWs k h f xs).map .tup
  | .lst xs => (frzWs k h f xs).map .lst
  | .ro xs => (frzWs k h f xs).map .ro
  | .loc n => if n < k then some (.loc n) else match h[n]? with
    | some (.lst xs) => (f xs).map .lst
    | _ => none
  | v => some v
termination_by structural x => x
def frzWs (k : Nat) (h : AH) (f : List PV → Option (List PV)) : List PV → Option (List PV)
  | [] => some []
  | v :: r => match frzW k h f v, frzWs k h f r with
    | some v', some r' => some (v' :: r')
    | _, _ => none
termination_by structural x => x
end
def frzs (k : Nat) (h : AH) : Nat → List PV → Option (List PV)
  | 0, xs => frzWs k h (fun _ => none) xs
  | d + 1, xs => frzWs k h (frzs k h d) xs
def frz (k : Nat) (h : AH) (v : PV) : Option PV := frzW k h (frzs k h 3) v
mutual
def PV.low (k : Nat) : PV → Bool
  | .tup xs => PV.lows k xs
  | .lst xs => PV.lows k xs
  | .ro xs => PV.lows k xs
  | .loc n => decide (n < k)
  | _ => true
termination_by structural x => x
def PV.lows (k : Nat) : List PV → Bool
  | [] => true
  | v :: r => PV.low k v && PV.lows k r
termination_by structural x => x
end
def AO.low (k : Nat) : AO → Bool
  | .lst xs => PV.lows k xs
  | .dK xs => PV.lows k (xs.map (·.2))
  | .dT xs => PV.lows k (xs.map (·.2))
  | .fK xs => PV.lows k (xs.map (·.2))
theorem belows_iff {k : Nat} : ∀ {xs : List PV}, PV.lows k xs = true ↔ ∀ x ∈ xs, PV.low k x = true
  | [] => by simp [PV.lows]
  | x :: xs => by rw [PV.lows, Bool.and_eq_true, belows_iff]; simp
mutual
theorem below_mono {k j : Nat} (hkj : k ≤ j) : ∀ (v : PV), PV.low k v = true → PV.low j v = true
  | .non, _ => rfl
  | .bl _, _ => rfl
  | .int _, _ => rfl
  | .str _, _ => rfl
  | .raw _, _ => rfl
  | .loc n, e => by simp only [PV.low, decide_eq_true_eq] at e ⊢; omega
  | .tup xs, e => belows_mono hkj xs e
  | .lst xs, e => belows_mono hkj xs e
  | .ro xs, e => belows_mono hkj xs e
theorem belows_mono {k j : Nat} (hkj : k ≤ j) : ∀ (v : List PV), PV.lows k v = true → PV.lows j v = true
  | [], _ => rfl
  | x :: xs, e => by
    simp only [PV.lows, Bool.and_eq_true] at e ⊢
    exact ⟨below_mono hkj x e.1, belows_mono hkj xs e.2⟩
end
mutual
theorem frzW_below {k : Nat} {h : AH} {f : List PV → Option (List PV)} : ∀ (v : PV), PV.low k v = true → frzW k h f v = some v
  | .non, _ => rfl
  | .bl _, _ => rfl
  | .int _, _ => rfl
  | .str _, _ => rfl
  | .raw _, _ => rfl
  | .loc n, e => by simp only [PV.low, decide_eq_true_eq] at e; simp [frzW, e]
  | .tup xs, e => by rw [frzW, frzWs_below xs e]; rfl
  | .lst xs, e => by rw [frzW, frzWs_below xs e]; rfl
  | .ro xs, e => by rw [frzW, frzWs_below xs e]; rfl
theorem frzWs_below {k : Nat} {h : AH} {f : List PV → Option (List PV)} : ∀ (v : List PV), PV.lows k v = true → frzWs k h f v = some v
  | [], _ => rfl
  | x :: xs, e => by
    simp only [PV.lows, Bool.and_eq_true] at e
    rw [frzWs, frzW_below x e.1, frzWs_below xs e.2]
end
theorem frz_below {k : Nat} {h : AH} {v : PV} (e : PV.low k v = true) : frz k h v = some v := frzW_below v e
theorem frzs_below {k : Nat} {h : AH} {xs : List PV} (e : PV.lows k xs = true) : ∀ d, frzs k h d xs = some xs
  | 0 => frzWs_below xs e
  | _ + 1 => frzWs_below xs e
theorem frz_new {k n : Nat} {h : AH} {xs : List PV} (hn : k ≤ n) (e : h[n]? = some (.lst xs)) (b : PV.lows k xs = true) : frz k h (.loc n) = some (.lst xs) := by
  unfold frz frzW
  rw [if_neg (by omega), e]
  show (frzs k h 3 xs).map PV.lst = _
  rw [frzs_below b]; rfl
section
variable {K : KW} {ρ ρ' : List Addr} {H H' : Hp} {h h1 : AH}
theorem RV.isLow {x : PV} {v : V} (r : RV K ρ H x v) : PV.low ρ.length x = true := by
  induction r with
  | non => rfl
  | bl => rfl
  | int => rfl
  | str => rfl
  | raw => rfl
  | loc e => simp only [PV.low, decide_eq_true_eq]; exact (List.getElem?_eq_some_iff.mp e).1
  | @tup xs p vs f n e ih =>
    refine belows_iff.mpr fun x hx => ?_
    obtain ⟨i, hi⟩ := List.getElem?_of_mem hx
    have h1 : i < vs.length := by rw [n]; exact (List.getElem?_eq_some_iff.mp hi).1
    exact ih i x vs[i] hi (by simp [h1])
  | @lst xs p vs f n e ih =>
    refine belows_iff.mpr fun x hx => ?_
    obtain ⟨i, hi⟩ := List.getElem?_of_mem hx
    have h1 : i < vs.length := by rw [n]; exact (List.getElem?_eq_some_iff.mp hi).1
    exact ih i x vs[i] hi (by simp [h1])
  | @ro xs p vs f n e ih =>
    refine belows_iff.mpr fun x hx => ?_
    obtain ⟨i, hi⟩ := List.getElem?_of_mem hx
    have h1 : i < vs.length := by rw [n]; exact (List.getElem?_eq_some_iff.mp hi).1
    exact ih i x vs[i] hi (by simp [h1])
theorem RVs.isLow {xs : List PV} {vs : List V} (r : RVs K ρ H xs vs) : PV.lows ρ.length xs = true := by
  refine belows_iff.mpr fun x hx => ?_
  obtain ⟨i, hi⟩ := List.getElem?_of_mem hx
  obtain ⟨v, _, q⟩ := r.get hi
  exact q.isLow
theorem RO.isLow {a : Addr} {o : AO} (r : RO K ρ H a o) : o.low ρ.length = true := by
  cases o with
  | lst xs => obtain ⟨vs, _, q⟩ := r; exact q.isLow
  | dK xs => obtain ⟨vs, _, q⟩ := r; exact q.vals.isLow
  | dT xs => obtain ⟨vs, _, q⟩ := r; exact q.vals.isLow
  | fK xs => obtain ⟨ob, vs, _, q⟩ := r; exact q.vals.isLow
/-- a value without numbers from k on holds of the first k addresses -/
theorem RV.cut {x : PV} {v : V} (r : RV K ρ H x v) {k : Nat} : PV.low k x = true → RV K (ρ.take k) H x v := by
  have sub : ∀ p, p ∉ ρ → p ∉ ρ.take k := fun p n z => n (List.mem_of_mem_take z)
  induction r with
  | non => exact fun _ => .non
  | bl b => exact fun _ => .bl b
  | int i => exact fun _ => .int i
  | str x => exact fun _ => .str x
  | raw v => exact fun _ => .raw v
  | loc e =>
    intro b
    simp only [PV.low, decide_eq_true_eq] at b
    exact .loc (by rw [List.getElem?_take_of_lt b]; exact e)
  | tup vs f n e ih =>
    intro b
    refine .tup vs ?_ n fun i x v e1 e2 => ih i x v e1 e2 (belows_iff.mp b x (List.mem_of_getElem? e1))
    rcases f with ⟨r, q⟩ | c
    · exact .inl ⟨r, sub _ q⟩
    · exact .inr c
  | lst vs f n e ih =>
    intro b
    exact .lst vs ⟨f.1, sub _ f.2⟩ n fun i x v e1 e2 => ih i x v e1 e2 (belows_iff.mp b x (List.mem_of_getElem? e1))
  | ro vs f n e ih =>
    intro b
    refine .ro vs ?_ n fun i x v e1 e2 => ih i x v e1 e2 (belows_iff.mp b x (List.mem_of_getElem? e1))
    rcases f with ⟨r, q⟩ | c
    · exact .inl ⟨r, sub _ q⟩
    · exact .inr c
theorem RVs.cut' {xs : List PV} {vs : List V} (r : RVs K ρ H xs vs) {k : Nat} (b : PV.lows k xs = true) : RVs K (ρ.take k) H xs vs :=
  ⟨r.len, fun i x v e1 e2 => (r.at_ i x v e1 e2).cut (belows_iff.mp b x (List.mem_of_getElem? e1))⟩
theorem RO.cut {a : Addr} {o : AO} (r : RO K ρ H a o) {k : Nat} (b : o.low k = true) : RO K (ρ.take k) H a o := by
  cases o with
  | lst xs => obtain ⟨vs, e, q⟩ := r; exact ⟨vs, e, q.cut' b⟩
  | dK xs => obtain ⟨vs, e, q⟩ := r; exact ⟨vs, e, q.keys, q.vals.cut' b⟩
  | dT xs => obtain ⟨vs, e, q⟩ := r; exact ⟨vs, e, q.keys, q.vals.cut' b⟩
  | fK xs => obtain ⟨ob, vs, e, q⟩ := r; exact ⟨ob, vs, e, q.keys, q.vals.cut' b⟩
/-- addresses from k on are not among the first k -/
theorem nodup_cut (nd : ρ.Nodup) {n k : Nat} {p : Addr} (hn : k ≤ n) (e : ρ[n]? = some p) : p ∉ ρ.take k := fun z => by
  obtain ⟨i, hi⟩ := List.getElem?_of_mem z
  have h1 : i < k := by
    have := (List.getElem?_eq_some_iff.mp hi).1
    rw [List.length_take] at this; omega
  rw [List.getElem?_take_of_lt h1] at hi
  have := nodup_at nd hi e
  omega
mutual
theorem frzW_ok (R : Rep K ρ h H) {k : Nat} {f : List PV → Option (List PV)} (hf : ∀ xs ys vs, f xs = some ys → RVs K ρ H xs vs → RVs K (ρ.take k) H ys vs) :
    ∀ (x y : PV) (v : V), frzW k h f x = some y → RV K ρ H x v → RV K (ρ.take k) H y v
  | .non, y, v, e, r => by cases e; exact r.cut rfl
  | .bl _, y, v, e, r => by cases e; exact r.cut rfl
  | .int _, y, v, e, r => by cases e; exact r.cut rfl
  | .str _, y, v, e, r => by cases e; exact r.cut rfl
  | .raw _, y, v, e, r => by cases e; exact r.cut rfl
  | .loc n, y, v, e, r => by
    unfold frzW at e
    by_cases hn : n < k
    · rw [if_pos hn] at e; cases e
      exact r.cut (by simp [PV.low, hn])
    · rw [if_neg hn] at e
      split at e
      · rename_i xs eh
        cases c : f xs with
        | none => rw [c] at e; cases e
        | some ys =>
          rw [c] at e; cases e
          obtain ⟨p, vs, rfl, ep, e1, q⟩ := loc_lst R r eh
          have q2 := hf xs ys vs c q
          exact .lst vs ⟨e1, nodup_cut R.nd (by omega) ep⟩ q2.len q2.at_
      · cases e
  | .tup xs, y, v, e, r => by
    unfold frzW at e
    obtain ⟨p, vs, rfl, f1, q⟩ := r.tup_inv
    cases c : frzWs k h f xs with
    | none => rw [c] at e; cases e
    | some ys =>
      rw [c] at e; cases e
      have q2 := frzWs_ok R hf xs ys vs c q
      refine .tup vs ?_ q2.len q2.at_
      rcases f1 with ⟨r, n⟩ | c
      · exact .inl ⟨r, fun z => n (List.mem_of_mem_take z)⟩
      · exact .inr c
  | .lst xs, y, v, e, r => by
    unfold frzW at e
    obtain ⟨p, vs, rfl, f1, q⟩ := r.lst_inv
    cases c : frzWs k h f xs with
    | none => rw [c] at e; cases e
    | some ys =>
      rw [c] at e; cases e
      have q2 := frzWs_ok R hf xs ys vs c q
      exact .lst vs ⟨f1.1, fun z => f1.2 (List.mem_of_mem_take z)⟩ q2.len q2.at_
  | .ro xs, y, v, e, r => by
    unfold frzW at e
    obtain ⟨p, vs, rfl, f1, q⟩ := r.ro_inv
    cases c : frzWs k h f xs with
    | none => rw [c] at e; cases e
    | some ys =>
      rw [c] at e; cases e
      have q2 := frzWs_ok R hf xs ys vs c q
      refine .ro vs ?_ q2.len q2.at_
      rcases f1 with ⟨r, n⟩ | c
      · exact .inl ⟨r, fun z => n (List.mem_of_mem_take z)⟩
      · exact .inr c
theorem frzWs_ok (R : Rep K ρ h H) {k : Nat} {f : List PV → Option (List PV)} (hf : ∀ xs ys vs, f xs = some ys → RVs K ρ H xs vs → RVs K (ρ.take k) H ys vs) :
    ∀ (xs ys : List PV) (vs : List V), frzWs k h f xs = some ys → RVs K ρ H xs vs → RVs K (ρ.take k) H ys vs
  | [], ys, vs, e, r => by cases e; rw [r.nil_inv]; exact .nil
  | x :: xs, ys, vs, e, r => by
    unfold frzWs at e
    split at e
    · rename_i v' r' e1 e2
      cases e
      obtain ⟨v, vs', rfl, q, s⟩ := r.cons_inv
      exact .cons (frzW_ok R hf x v' v e1 q) (frzWs_ok R hf xs r' vs' e2 s)
    · cases e
end
theorem frzs_ok (R : Rep K ρ h H) {k : Nat} : ∀ (d : Nat) (xs ys : List PV) (vs : List V), frzs k h d xs = some ys → RVs K ρ H xs vs → RVs K (ρ.take k) H ys vs
  | 0, xs, ys, vs, e, r => frzWs_ok R (fun _ _ _ z => by cases z) xs ys vs e r
  | d + 1, xs, ys, vs, e, r => frzWs_ok R (fun xs ys vs e r => frzs_ok R d xs ys vs e r) xs ys vs e r
theorem frz_ok (R : Rep K ρ h H) {k : Nat} {x y : PV} {v : V} (e : frz k h x = some y) (r : RV K ρ H x v) : RV K (ρ.take k) H y v :=
  frzW_ok R (fun xs ys vs e r => frzs_ok R 3 xs ys vs e r) x y v e r
/-- the old objects: as they were, or without new numbers -/
def cutB (h h1 : AH) : Nat → Bool
  | 0 => true
  | n + 1 => cutB h h1 n && (decide (h1[n]? = h[n]?) || (match h1[n]? with
    | some o => o.low h.length
    | none => false))
theorem cutB_at {n m : Nat} (hm : m < n) (c : cutB h h1 n = true) : h1[m]? = h[m]? ∨ ∃ o, h1[m]? = some o ∧ o.low h.length = true := by
  induction n with
  | zero => omega
  | succ n ih =>
    simp only [cutB, Bool.and_eq_true, Bool.or_eq_true, decide_eq_true_eq] at c
    by_cases e : m = n
    · subst e
      rcases c.2 with c | c
      · exact .inl c
      · split at c
        · rename_i o eo; exact .inr ⟨o, eo, c⟩
        · cases c
    · exact ih (by omega) c.1
theorem cutB_of {n : Nat} (c : ∀ m, m < n → h1[m]? = h[m]? ∨ ∃ o, h1[m]? = some o ∧ o.low h.length = true) : cutB h h1 n = true := by
  induction n with
  | zero => rfl
  | succ n ih =>
    simp only [cutB, Bool.and_eq_true, Bool.or_eq_true, decide_eq_true_eq]
    refine ⟨ih fun m hm => c m (by omega), ?_⟩
    rcases c n (by omega) with c | ⟨o, eo, c⟩
    · exact .inl c
    · exact .inr (by rw [eo]; exact c)
/-- the state without the new objects -/
theorem Rep.cut (R : Rep K ρ h H) (R1 : Rep K ρ' h1 H') (x : Ext ρ H ρ' H') (c : cutB h h1 h.length = true) : ρ'.take h.length = ρ ∧ Rep K ρ (h1.take h.length) H' ∧ Ext ρ H ρ H' := by
  have e0 : ρ'.take h.length = ρ := by
    obtain ⟨t, rfl⟩ := x.pre
    rw [← R.len, List.take_left]
  have hl : h.length ≤ h1.length := by
    have := x.pre.length_le
    rw [R.len, R1.len] at this; exact this
  refine ⟨e0, ⟨R.nd, by rw [R.len, List.length_take]; omega, fun n a o e1 e2 => ?_⟩, ⟨List.prefix_refl _, fun p o e n => ⟨(x.old p o e n).1, n⟩, x.frz⟩⟩
  have hn : n < h.length := by rw [← R.len]; exact (List.getElem?_eq_some_iff.mp e1).1
  rw [List.getElem?_take_of_lt hn] at e2
  have q := R1.obj n a o (x.get e1) e2
  have b : o.low h.length = true := by
    rcases cutB_at hn c with c | ⟨o', eo, c⟩
    · rw [e2] at c
      have := (R.obj n a o e1 c.symm).isLow
      rw [R.len] at this; exact this
    · rw [e2] at eo; cases eo; exact c
  have q2 := q.cut b
  rw [e0] at q2
  exact q2
end
section
variable {X : Cx} {W : WX} {K : KW}
/-- the value frozen, the new objects given up -/
def finC (k : Nat) (h h1 : AH) (v : PV) : Res PV := if cutB h h1 k = true then (match frz k h1 v with
  | some v' => .ok v' (h1.take k)
  | none => .stuck) else .stuck
def aCut (m : AE) : AE := fun σ h => match m σ h with
  | .ok v h1 => finC h.length h h1 v
  | .exc c fs h1 => .exc c fs h1
  | .stuck => .stuck
theorem Out.cut {ρ : List Addr} {h : AH} {H : Hp} {τ : St} {r : Res PV} {Q : VK} (R : Rep K ρ h H) (o : OutE K W ρ τ H (match r with
  | .ok v h1 => finC h.length h h1 v
  | .exc c fs h1 => .exc c fs h1
  | .stuck => .stuck) Q) : OutE K W ρ τ H r Q := by
  cases r with
  | ok v h1 =>
    intro ρ' H' x e R1 r
    unfold finC at o
    dsimp only at o
    split at o
    · rename_i c
      split at o
      · rename_i v' ev
        obtain ⟨e0, R2, x2⟩ := R.cut R1 e c
        have q := frz_ok R1 ev r
        rw [e0] at q
        exact o ρ H' x x2 R2 q
      · exact o.elim
    · exact o.elim
  | exc c fs h1 => exact o
  | stuck => exact o
theorem je_cut {e : Expr} {m : AE} (he : JE X W e m) : JE X W e (aCut m) :=
  ⟨PEmono he.pe fun τ H Q ⟨ρ, h, σ, R, S, o⟩ => ⟨ρ, h, σ, R, S, Out.cut R o⟩⟩
def tCut (m : AT) : AT := fun σ h => match m σ h with
  | .ok v h1 => if cutB h h1 h.length = true then .ok v (h1.take h.length) else .stuck
  | .exc c fs h1 => .exc c fs h1
  | .stuck => .stuck
theorem jt_cut {e : Expr} {m : AT} (he : JT X W e m) : JT X W e (tCut m) :=
  ⟨PTmono he.pt fun τ H Q ⟨ρ, h, σ, R, S, o⟩ => ⟨ρ, h, σ, R, S, by
    unfold tCut at o
    cases c : m σ h with
    | ok v h1 =>
      rw [c] at o
      dsimp only at o
      intro ρ' H' x e R1 r
      split at o
      · rename_i cb
        obtain ⟨e0, R2, x2⟩ := R.cut R1 e cb
        exact o ρ H' x x2 R2 r
      · exact o.elim
    | exc c' fs h1 => rw [c] at o; exact o
    | stuck => rw [c] at o; exact o⟩⟩
/-! ### statements -/
def liftS {α : Type} (r : Res α) (σ : ASt) (f : α → AH → SRes) : SRes := match r with
  | .ok a h => f a h
  | .exc c fs h => .exc c fs σ h
  | .stuck => .stuck
@[simp] theorem liftS_ok {α : Type} (a : α) (h : AH) (σ : ASt) (f : α → AH → SRes) : liftS (.ok a h) σ f = f a h := rfl
section
variable {α β : Type} {R : List Addr → Hp → α → β → Prop} {ρ ρ' : List Addr} {H H' : Hp} {τ : St}
theorem OutS.later {r : SRes} {D : Ends} (o : OutS K W ρ H r D) (e : Ext ρ H ρ' H') : OutS K W ρ' H' r D := by
  cases r with
  | fin f σ h =>
    cases f with
    | nx => exact fun r t G a b c => o r t G (e.trans a) b c
    | bk => exact fun r t G a b c => o r t G (e.trans a) b c
    | ct => exact fun r t G a b c => o r t G (e.trans a) b c
    | rt v => exact fun r t G a b c => o r t G (e.trans a) b c
  | exc c fs σ h => exact fun r t G d a b c x => o r t G d (e.trans a) b c x
  | stuck => exact o
/-- a part of a statement -/
theorem OutS.lift {r : Res α} {σ : ASt} {f : α → AH → SRes} {D : Ends} (S : RS K ρ H σ τ) (o : OutS K W ρ H (liftS r σ f) D) :
    Out K W R ρ τ H r (fun y G => ∃ ρ1 a h1, Ext ρ H ρ1 G ∧ Rep K ρ1 h1 G ∧ R ρ1 G a y ∧ OutS K W ρ1 G (f a h1) D) := by
  cases r with
  | ok a h => exact fun r G y e b g => ⟨r, a, h, e, b, g, OutS.later o e⟩
  | exc c fs h => exact fun r G d e b x => o r τ G d e b (S.mono e) x
  | stuck => exact o
end
def sExpr (m : AE) : AS := fun σ h => liftS (m σ h) σ fun _ h1 => .fin .nx σ h1
def sRet (m : AE) : AS := fun σ h => liftS (m σ h) σ fun x h1 => .fin (.rt x) σ h1
def sRetN : AS := fun σ h => .fin (.rt .non) σ h
def sNext : AS := fun σ h => .fin .nx σ h
def sBreak : AS := fun σ h => .fin .bk σ h
def sCont : AS := fun σ h => .fin .ct σ h
def sNever : AS := fun _ _ => .stuck
def sIf (c : AT) (a b : AS) : AS := fun σ h => liftS (c σ h) σ fun x h1 => if x = true then a σ h1 else b σ h1
def sSeq (a b : AS) : AS := fun σ h => match a σ h with
  | .fin .nx σ1 h1 => b σ1 h1
  | r => r
theorem js_expr {e : Expr} {m : AE} {pos : Pos} (he : JE X W e m) (hs : swapsWith e none pos.line X.env = pure false := by rfl) : JS X W (.Expr e pos) (sExpr m) :=
  ⟨PSmono (ps_expr he.pe hs) fun D τ H ⟨ρ, h, σ, R, S, o⟩ => ⟨ρ, h, σ, R, S, (OutS.lift (R := RV (cxKW X)) S o).mono fun x H1 ⟨ρ1, v, h1, e1, R1, q1, o1⟩ => o1 ρ1 τ H1 .refl R1 (S.mono e1)⟩⟩
theorem js_ret {e : Expr} {m : AE} {pos : Pos} (he : JE X W e m) : JS X W (.Return (some e) pos) (sRet m) :=
  ⟨PSmono (ps_ret he.pe) fun D τ H ⟨ρ, h, σ, R, S, o⟩ => ⟨ρ, h, σ, R, S, (OutS.lift (R := RV (cxKW X)) S o).mono fun x H1 ⟨ρ1, v, h1, e1, R1, q1, o1⟩ => o1 ρ1 x H1 .refl R1 q1⟩⟩
theorem js_retN {pos : Pos} : JS X W (.Return none pos) sRetN :=
  ⟨PSmono ps_retN fun D τ H ⟨ρ, h, σ, R, S, o⟩ => o ρ .non H .refl R .non⟩
theorem js_pass {pos : Pos} : JS X W (.Pass pos) sNext := ⟨PSmono ps_pass fun D τ H ⟨ρ, h, σ, R, S, o⟩ => o ρ τ H .refl R S⟩
theorem js_break {pos : Pos} : JS X W (.Break pos) sBreak := ⟨PSmono ps_break fun D τ H ⟨ρ, h, σ, R, S, o⟩ => o ρ τ H .refl R S⟩
theorem js_cont {pos : Pos} : JS X W (.Continue pos) sCont := ⟨PSmono ps_continue fun D τ H ⟨ρ, h, σ, R, S, o⟩ => o ρ τ H .refl R S⟩
theorem js_never {st : Stmt} : JS X W st sNever := ⟨PSmono ps_never fun D τ H ⟨ρ, h, σ, R, S, o⟩ => o⟩
theorem jss_never {st : List Stmt} : JSs X W st sNever := ⟨PSsmono pss_never fun D τ H ⟨ρ, h, σ, R, S, o⟩ => o⟩
theorem jss_nil : JSs X W [] sNext := ⟨PSsmono pss_nil fun D τ H ⟨ρ, h, σ, R, S, o⟩ => o ρ τ H .refl R S⟩
theorem jss_one {st : Stmt} {m : AS} (h1 : JS X W st m) : JSs X W [st] m := ⟨pss_one h1.ps⟩
theorem jss_cons {st : Stmt} {rest : List Stmt} {m u : AS} (h1 : JS X W st m) (h2 : JSs X W rest u) : JSs X W (st :: rest) (sSeq m u) :=
  ⟨PSsmono (pss_cons h1.ps h2.pss) fun D τ H ⟨ρ, h, σ, R, S, o⟩ => ⟨ρ, h, σ, R, S, by
    unfold sSeq at o
    cases c : m σ h with
    | fin f σ1 h1 =>
      rw [c] at o
      cases f with
      | nx => exact fun ρ1 τ1 H1 e1 R1 S1 => ⟨ρ1, h1, σ1, R1, S1, OutS.later o e1⟩
      | bk => exact o
      | ct => exact o
      | rt v => exact o
    | exc c' fs σ1 h1 => rw [c] at o; exact o
    | stuck => rw [c] at o; exact o.elim⟩⟩
theorem js_if {c : Expr} {a b : List Stmt} {mc : AT} {ma mb : AS} {pos : Pos} (hc : JT X W c mc) (ha : JSs X W a ma) (hb : JSs X W b mb) : JS X W (.If c a b pos) (sIf mc ma mb) :=
  ⟨PSmono (ps_if hc.pt ha.pss hb.pss) fun D τ H ⟨ρ, h, σ, R, S, o⟩ => ⟨ρ, h, σ, R, S, (OutS.lift (R := fun _ _ (a b : Bool) => a = b) S o).mono fun x H1 ⟨ρ1, v, h1, e1, R1, q1, o1⟩ => by
    subst q1
    cases v with
    | true => rw [if_pos rfl] at o1 ⊢; exact ⟨ρ1, h1, σ, R1, S.mono e1, o1⟩
    | false => rw [if_neg Bool.false_ne_true] at o1 ⊢; exact ⟨ρ1, h1, σ, R1, S.mono e1, o1⟩⟩⟩
/-! ### targets -/
abbrev AG := PV → ASt → AH → Option (ASt × AH)
abbrev AGs := List PV → ASt → AH → Option (ASt × AH)
def OutG (K : KW) (ρ : List Addr) (H : Hp) (r : Option (ASt × AH)) (Q : St → Hp → Prop) : Prop := match r with
  | some (σ, h) => ∀ ρ' τ H', Ext ρ H ρ' H' → Rep K ρ' h H' → RS K ρ' H' σ τ → Q τ H'
  | none => False
structure JG (X : Cx) (tg : Expr) (g : AG) : Prop where
  pg : PG X tg (fun v τ H Q => ∃ ρ h σ x, Rep (cxKW X) ρ h H ∧ RS (cxKW X) ρ H σ τ ∧ RV (cxKW X) ρ H x v ∧ OutG (cxKW X) ρ H (g x σ h) Q)
structure JGs (X : Cx) (ts : List Expr) (g : AGs) : Prop where
  pgs : PGs X ts (fun v τ H Q => ∃ ρ h σ x, Rep (cxKW X) ρ h H ∧ RS (cxKW X) ρ H σ τ ∧ RVs (cxKW X) ρ H x v ∧ OutG (cxKW X) ρ H (g x σ h) Q)
theorem PGmono {e : Expr} {t t' : TG} (p : PG X e t) (i : ∀ v σ H Q, t' v σ H Q → t v σ H Q) : PG X e t' := ⟨fun pins s σ H v u Q I r h => p.run pins s σ H v u Q I r (i v σ H Q h)⟩
theorem PGsmono {e : List Expr} {t t' : TGs} (p : PGs X e t) (i : ∀ v σ H Q, t' v σ H Q → t v σ H Q) : PGs X e t' := ⟨fun pins s σ H v u Q I r h => p.run pins s σ H v u Q I r (i v σ H Q h)⟩
theorem OutG.later {ρ ρ' : List Addr} {H H' : Hp} {r : Option (ASt × AH)} {Q : St → Hp → Prop} (o : OutG K ρ H r Q) (e : Ext ρ H ρ' H') : OutG K ρ' H' r Q := by
  cases r with
  | none => exact o
  | some p => exact fun r t G a b c => o r t G (e.trans a) b c
theorem OutG.mono {ρ : List Addr} {H : Hp} {r : Option (ASt × AH)} {Q Q' : St → Hp → Prop} (o : OutG K ρ H r Q) (i : ∀ t G, Q t G → Q' t G) : OutG K ρ H r Q' := by
  cases r with
  | none => exact o
  | some p => exact fun r t G a b c => i _ _ (o r t G a b c)
def gN (i : Nat) : AG := fun x σ h => some (σ.set i (some x), h)
theorem jg_name (i : Nat) {x : Str} {pos : Pos} (hN : X.N.Nodup) (hi : X.N[i]? = some x := by rfl) (hx : Loc X.env.scope x := by first | exact Or.inl rfl | exact Or.inr rfl) (hf : X.fn x = true ∨ X.env.scope.names.lookup x = some .local := by first | exact .inl rfl | exact .inr rfl) : JG X (.Name x pos) (gN i) :=
  ⟨PGmono (pg_name (i := i) hN hi hx hf) fun v τ H Q ⟨ρ, h, σ, y, R, S, r, o⟩ => o ρ _ H .refl R (S.set i r)⟩
def gNil' : AGs := fun xs σ h => match xs with
  | [] => some (σ, h)
  | _ => none
def gCons' (g : AG) (r : AGs) : AGs := fun xs σ h => match xs with
  | x :: t => match g x σ h with
    | some (σ1, h1) => r t σ1 h1
    | none => none
  | [] => none
theorem jgs_nil : JGs X [] gNil' := ⟨PGsmono pgs_nil fun v τ H Q ⟨ρ, h, σ, y, R, S, r, o⟩ => by
  cases y with
  | nil => exact ⟨r.nil_inv, o ρ τ H .refl R S⟩
  | cons a t => exact o.elim⟩
theorem jgs_cons {e : Expr} {es : List Expr} {g : AG} {u : AGs} (h1 : JG X e g) (h2 : JGs X es u) (hs : (assignEach (e :: es) X.env).map (·.2) = assign e X.env :: (assignEach es X.env).map (·.2) := by rfl) : JGs X (e :: es) (gCons' g u) :=
  ⟨PGsmono (pgs_cons h1.pg h2.pgs hs) fun v τ H Q ⟨ρ, h, σ, y, R, S, r, o⟩ => by
    cases y with
    | nil => exact o.elim
    | cons a t =>
      obtain ⟨w, ws, rfl, q, s⟩ := r.cons_inv
      refine ⟨w, ws, rfl, ρ, h, σ, a, R, S, q, ?_⟩
      dsimp only [gCons'] at o
      cases c : g a σ h with
      | none => rw [c] at o; exact o.elim
      | some p =>
        obtain ⟨σ1, h1⟩ := p
        rw [c] at o
        exact fun ρ1 τ1 H1 e1 R1 S1 => ⟨ρ1, h1, σ1, t, R1, S1, s.mono e1, OutG.later o e1⟩⟩
def gTup' (n : Nat) (g : AGs) : AG := fun x σ h => match x with
  | .tup xs => if xs.length = n then g xs σ h else none
  | _ => none
theorem jg_tup {es : List Expr} {k : Nat} {g : AGs} {n : Nat} {pos : Pos} (hc : X.calm = true) (h : JGs X es g) (hn : (assignEach es X.env).length = n := by rfl) (hst : (assignEach es X.env).findIdx? (·.1) = none := by rfl) : JG X (.Tuple es k pos) (gTup' n g) :=
  ⟨PGmono (pg_tup hc h.pgs hn hst) fun v τ H Q ⟨ρ, h, σ, y, R, S, r, o⟩ => by
    cases y with
    | tup xs =>
      obtain ⟨p, vs, rfl, f, q⟩ := r.tup_inv
      dsimp only [gTup'] at o
      split at o
      · rename_i hz
        exact ⟨p, vs, rfl, f.sq, by rw [q.len]; exact hz, ρ, h, σ, xs, R, S, q, o⟩
      · exact o.elim
    | _ => exact o.elim⟩
/-- xs[i] = v of a list -/
def gSubL (ao ai : AE) : AG := fun x σ h => match ao σ h with
  | .ok (.loc n) h1 => match ai σ h1 with
    | .ok (.int k) h2 => match h2[n]? with
      | some (.lst xs) => match ixN xs.length k with
        | some j => some (σ, h2.set n (.lst (xs.set j x)))
        | none => none
      | _ => none
    | _ => none
  | _ => none
theorem jg_subL {o i : Expr} {ao ai : AE} {pos : Pos} (ho : JE X (fun _ _ _ _ => False) o ao) (hi : JE X (fun _ _ _ _ => False) i ai)
    (ha : ∀ v, assign (.Subscript o i pos) X.env v = (do
      let ov ← holding [v] (eval o X.env)
      let iv ← holding [v, ov] (eval i X.env)
      standAt pos
      holding [v, ov, iv] (setItem ov iv v)
      release [v, ov, iv] []) := by intro _; rfl) : JG X (.Subscript o i pos) (gSubL ao ai) :=
  ⟨PGmono (pg_sub ho.pe hi.pe set_list ha) fun v τ H Q ⟨ρ, h, σ, y, R, S, r, o⟩ => by
    unfold gSubL at o
    cases c : ao σ h with
    | exc _ _ _ => rw [c] at o; exact o.elim
    | stuck => rw [c] at o; exact o.elim
    | ok a h1 =>
      rw [c] at o
      cases a with
      | loc n =>
        dsimp only at o
        refine ⟨ρ, h, σ, R, S, ?_⟩
        rw [c]
        intro ρ1 H1 x1 e1 R1 r1
        cases c2 : ai σ h1 with
        | exc _ _ _ => rw [c2] at o; exact o.elim
        | stuck => rw [c2] at o; exact o.elim
        | ok b h2 =>
          rw [c2] at o
          cases b with
          | int k =>
            dsimp only at o
            refine ⟨ρ1, h1, σ, R1, S.mono e1, ?_⟩
            rw [c2]
            intro ρ2 H2 x2 e2 R2 r2
            split at o
            · rename_i xs eh
              split at o
              · rename_i j ej
                obtain ⟨p, us, rfl, ep, e3, q⟩ := loc_lst R2 (r1.mono e2) eh
                have e02 := e1.trans e2
                refine ⟨p, us, k, j, rfl, r2.int_inv, e3, by rw [q.len]; exact ej, ?_⟩
                have x3 : Ext ρ2 H2 ρ2 (upd H2 p (.lst (us.set j v))) := .write ep (nfL e3)
                refine o ρ2 τ _ (e02.trans x3) (R2.write ep (nfL e3) ⟨us.set j v, upd_same, (q.set (r.mono e02)).mono x3⟩) ((S.mono e02).mono x3)
              · exact o.elim
            · exact o.elim
          | _ => exact o.elim
      | _ => exact o.elim⟩
def sAsg (m : AE) (g : AG) : AS := fun σ h => liftS (m σ h) σ fun x h1 => match g x σ h1 with
  | some (σ2, h2) => .fin .nx σ2 h2
  | none => .stuck
theorem OutS.g {ρ : List Addr} {H : Hp} {r : Option (ASt × AH)} {D : Ends} (o : OutS K W ρ H (match r with
  | some (σ2, h2) => .fin .nx σ2 h2
  | none => .stuck) D) : OutG K ρ H r D.nx := by
  cases r with
  | none => exact o.elim
  | some p => exact o
theorem js_asg {tg e : Expr} {m : AE} {g : AG} {pos : Pos} (he : JE X W e m) (hg : JG X tg g) (hs : swapsWithSole [tg] e pos.line X.env = pure false := by rfl) (hw : swappedStores [tg] e X.env = pure none := by rfl)
    (h1 : (assignEach [tg] X.env).map (·.2) = [assign tg X.env] := by rfl) : JS X W (.Assign [tg] e pos) (sAsg m g) :=
  ⟨PSmono (ps_asg he.pe hg.pg hs hw h1) fun D τ H ⟨ρ, h, σ, R, S, o⟩ => ⟨ρ, h, σ, R, S, (OutS.lift (R := RV (cxKW X)) S o).mono fun x H1 ⟨ρ1, v, h1, e1, R1, q1, o1⟩ =>
    ⟨ρ1, h1, σ, v, R1, S.mono e1, q1, OutS.g o1⟩⟩⟩
/-- name = e -/
def sSet (i : Nat) (m : AE) : AS := fun σ h => liftS (m σ h) σ fun x h1 => .fin .nx (σ.set i (some x)) h1
theorem js_set (i : Nat) {x : Str} {e : Expr} {m : AE} {pos pos' : Pos} (hN : X.N.Nodup) (he : JE X W e m) (hi : X.N[i]? = some x := by rfl) (hx : Loc X.env.scope x := by first | exact Or.inl rfl | exact Or.inr rfl) (hs : swapsWith e (some (.Name x pos')) pos.line X.env = pure false := by rfl)
    (hf : X.fn x = true ∨ X.env.scope.names.lookup x = some .local := by first | exact .inl rfl | exact .inr rfl) : JS X W (.Assign [.Name x pos'] e pos) (sSet i m) :=
  ⟨PSmono (ps_set (i := i) hN hi hx he.pe hs hf) fun D τ H ⟨ρ, h, σ, R, S, o⟩ => ⟨ρ, h, σ, R, S, (OutS.lift (R := RV (cxKW X)) S o).mono fun x H1 ⟨ρ1, v, h1, e1, R1, q1, o1⟩ =>
    o1 ρ1 _ H1 .refl R1 ((S.mono e1).set i q1)⟩⟩
/-- name += e, ints -/
def fIAdd : F2 := fI0 fun i j => .int (i + j)
def fISub : F2 := fI0 fun i j => .int (i - j)
structure JIp (X : Cx) (op : Operator) (f : F2) : Prop where
  ex : ∃ r, PIp X op r ∧ OpA (cxKW X) r f
theorem j_iadd : JIp X .Add fIAdd := ⟨_, ip_add, fun ρ h H τ W x y v u Q R r1 r2 o => by
  cases v with
  | int i =>
    cases u with
    | int j => exact ⟨i, j, r1.int_inv, r2.int_inv, Out.done o R (.int _)⟩
    | _ => exact o.elim
  | _ => exact o.elim⟩
theorem j_isub : JIp X .Sub fISub := ⟨_, ip_sub, fun ρ h H τ W x y v u Q R r1 r2 o => by
  cases v with
  | int i =>
    cases u with
    | int j => exact ⟨i, j, r1.int_inv, r2.int_inv, Out.done o R (.int _)⟩
    | _ => exact o.elim
  | _ => exact o.elim⟩
def sAug (i : Nat) (f : F2) (m : AE) : AS := fun σ h => match σ[i]? with
  | some (some x) => liftS (m σ h) σ fun y h1 => liftS (f x y h1) σ fun z h2 => .fin .nx (σ.set i (some z)) h2
  | _ => .stuck
theorem js_aug (i : Nat) {op : Operator} {f : F2} {x : Str} {e : Expr} {m : AE} {pos pos' : Pos} (hN : X.N.Nodup) (ho : JIp X op f) (he : JE X W e m) (hi : X.N[i]? = some x := by rfl) (hx : Loc X.env.scope x := by first | exact Or.inl rfl | exact Or.inr rfl)
    (hf : X.fn x = true ∨ X.env.scope.names.lookup x = some .local := by first | exact .inl rfl | exact .inr rfl) : JS X W (.AugAssign (.Name x pos') op e pos) (sAug i f m) := by
  obtain ⟨r, h1, h2⟩ := ho.ex
  refine ⟨PSmono (ps_aug (i := i) hN hi hx he.pe h1 hf) fun D τ H ⟨ρ, h, σ, R, S, o⟩ => ?_⟩
  unfold sAug at o
  split at o
  · rename_i x' ex
    obtain ⟨v, ev, rv⟩ := S.at_ i x' ex
    refine ⟨v, ev, ρ, h, σ, R, S, (OutS.lift (R := RV (cxKW X)) S o).mono fun y H1 ⟨ρ1, u, h1, e1, R1, q1, o1⟩ => ?_⟩
    refine h2 ρ1 h1 H1 τ W v y x' u _ R1 (rv.mono e1) q1 ((OutS.lift (R := RV (cxKW X)) (S.mono e1) o1).mono fun z H2 ⟨ρ2, w, h2, e2, R2, q2, o2⟩ => ?_)
    exact o2 ρ2 _ H2 .refl R2 (((S.mono e1).mono e2).set i q2)
  · exact o.elim
end
end AB

/-! AB6: loops, comprehensions, defs -/
namespace AB
open PySem PySem.Spec
open PyProof.Rows hiding St
open L2
section
variable {X : Cx} {W : WX} {K : KW}
/-! ### what a for walks -/
/-- at most n turns; at turn i over the heap h: none: not known; some none: the end; some (some x): x comes -/
structure AI where
  n : Nat
  nxt : Nat → AH → Option (Option PV)
def AIok (K : KW) (ρ0 : List Addr) (H0 : Hp) (a : AI) (J : It) : Prop := ∀ (i : Nat) (ρ : List Addr) (h : AH) (H : Hp), Ext ρ0 H0 ρ H → Rep K ρ h H → match a.nxt i h with
  | none => True
  | some none => J.stop i H
  | some (some x) => J.go i H ∧ ∀ v H', J.yld i H v H' → Ext ρ H ρ H' ∧ Rep K ρ h H' ∧ RV K ρ H' x v
abbrev AIt := ASt → AH → Res AI
def LI (K : KW) (W : WX) (m : AIt) : TI := fun τ H R => ∃ ρ h σ, Rep K ρ h H ∧ RS K ρ H σ τ ∧ Out K W (AIok K) ρ τ H (m σ h) R
structure JI (X : Cx) (W : WX) (tg iter : Expr) (m : AIt) : Prop where
  pi : PI X tg iter (LI (cxKW X) W m)
theorem PImono {tg iter : Expr} {t t' : TI} (p : PI X tg iter t) (i : ∀ σ H R, t' σ H R → t σ H R) : PI X tg iter t' := ⟨fun pins s σ H R I h => p.run pins s σ H R I (i σ H R h)⟩
def itVals (xs : List PV) : AI := ⟨xs.length, fun i _ => some xs[i]?⟩
def itLive (v : PV) (n : Nat) : AI := ⟨n, fun i h => (lstOf v h).map fun xs => xs[i]?⟩
/-- a list: by its number live, else by its items -/
def itL (v : PV) (h : AH) : Res AI := match lstOf v h with
  | some xs => match v with
    | .loc _ => .ok (itLive v xs.length) h
    | _ => .ok (itVals xs) h
  | none => .stuck
def aItL (m : AE) : AIt := fun σ h => (m σ h).bind itL
theorem ext_lst {ρ ρ' : List Addr} {H H' : Hp} {p : Addr} {vs : List V} (f : FxR K ρ H p vs) (e : Ext ρ H ρ' H') : SqL K.fr H' p vs := (f.mono e).sq
theorem SqL_inj_of {ρ : List Addr} {h : AH} {H : Hp} {v : PV} {p : Addr} {xs : List PV} (R : Rep K ρ h H) (r : RV K ρ H v (.ref p)) (e : lstOf v h = some xs) : ∃ vs, SqL K.fr H p vs ∧ RVs K ρ H xs vs := by
  obtain ⟨q, vs, e1, s, t⟩ := lst_of R r e
  cases e1; exact ⟨vs, s, t⟩
theorem aiok_lst {ρ0 : List Addr} {H0 : Hp} {v : PV} {p : Addr} {n : Nat} (r : RV K ρ0 H0 v (.ref p)) : AIok K ρ0 H0 (itLive v n) (Itl K.fr p) := fun i ρ h H e R => by
  have r1 := r.mono e
  unfold itLive
  dsimp only
  cases c : lstOf v h with
  | none => trivial
  | some xs =>
    obtain ⟨vs, s, q⟩ := SqL_inj_of R r1 c
    show match some xs[i]? with | none => True | some none => _ | some (some x) => _
    cases ci : xs[i]? with
    | none => exact ⟨vs, s, by rw [q.len]; exact List.getElem?_eq_none_iff.mp ci⟩
    | some x =>
      obtain ⟨w, ew, qw⟩ := q.get ci
      exact ⟨⟨vs, w, s, ew⟩, fun u H' ⟨e1, f⟩ => by
        subst e1
        have := f vs s
        rw [ew] at this; cases this
        exact ⟨.refl, R, qw⟩⟩
theorem aiok_vals {ρ0 : List Addr} {H0 : Hp} {v : PV} {p : Addr} {xs : List PV} (r : RV K ρ0 H0 v (.ref p)) (h0 : ∀ h, lstOf v h = some xs) : AIok K ρ0 H0 (itVals xs) (Itl K.fr p) := fun i ρ h H e R => by
  have q := aiok_lst (n := 0) r i ρ h H e R
  unfold itLive at q
  dsimp only at q
  rw [h0 h] at q
  exact q
theorem ji_list {tg l : Expr} {m : AE} (hl : JE X W l m) : JI X W tg l (aItL m) :=
  ⟨PImono (pi_list hl.pe) fun τ H Rk ⟨ρ, h, σ, R, S, o⟩ => ⟨ρ, h, σ, R, S, (Out.bind (R := RV (cxKW X)) o).mono fun x H1 ⟨ρ1, v, h1, e1, R1, q1, o1⟩ => by
    unfold itL at o1
    split at o1
    · rename_i xs c
      obtain ⟨p, vs, rfl, s, q⟩ := lst_of R1 q1 c
      refine ⟨p, rfl, ⟨vs, s⟩, ?_⟩
      split at o1
      · exact Out.done o1 R1 (aiok_lst q1)
      · rename_i hv
        refine Out.done o1 R1 (aiok_vals q1 fun h => ?_)
        cases v with
        | lst ys => exact c
        | ro ys => exact c
        | loc n => exact absurd rfl (hv n)
        | _ => cases c
    · exact o1.elim⟩⟩
def aItT (m : AE) : AIt := fun σ h => (m σ h).bind fun x h1 => match x with
  | .tup xs => .ok (itVals xs) h1
  | _ => .stuck
theorem ji_tup {tg l : Expr} {m : AE} (hl : JE X W l m) : JI X W tg l (aItT m) :=
  ⟨PImono (pi_tup hl.pe) fun τ H Rk ⟨ρ, h, σ, R, S, o⟩ => ⟨ρ, h, σ, R, S, (Out.bind (R := RV (cxKW X)) o).mono fun x H1 ⟨ρ1, v, h1, e1, R1, q1, o1⟩ => by
    cases v with
    | tup xs =>
      obtain ⟨p, vs, rfl, f, q⟩ := q1.tup_inv
      refine ⟨p, rfl, ⟨vs, f.sq⟩, Out.done o1 R1 fun i ρ2 h2 H2 e2 R2 => ?_⟩
      have f2 := (f.mono e2).sq
      have q2 := q.mono e2
      show match some xs[i]? with | none => True | some none => _ | some (some x) => _
      cases ci : xs[i]? with
      | none => exact ⟨vs, f2, by rw [q.len]; exact List.getElem?_eq_none_iff.mp ci⟩
      | some x =>
        obtain ⟨w, ew, qw⟩ := q2.get ci
        exact ⟨⟨vs, w, f2, ew⟩, fun u H' ⟨e1, f⟩ => by
          subst e1
          have := f vs f2
          rw [ew] at this; cases this
          exact ⟨.refl, R2, qw⟩⟩
    | _ => exact o1.elim⟩⟩
/-- range(n), range(a, b) -/
def itRg (lo : Int) (n : Nat) : AI := ⟨n, fun i _ => if i < n then some (some (.int (lo + i))) else some none⟩
theorem aiok_rg {ρ0 : List Addr} {H0 : Hp} (lo : Int) (n : Nat) : AIok K ρ0 H0 (itRg lo n) (Itr lo n) := fun i ρ h H e R => by
  unfold itRg
  dsimp only
  by_cases c : i < n
  · rw [if_pos c]
    exact ⟨c, fun v H' ⟨e1, e2⟩ => by subst e1; subst e2; exact ⟨.refl, R, .int _⟩⟩
  · rw [if_neg c]
    show n ≤ i
    omega
def aItR1 (l : AL) : AIt := fun σ h => (l σ h).bind fun xs h1 => match xs with
  | [.int j] => if -(2 ^ 62) ≤ j ∧ j < 2 ^ 62 then .ok (itRg 0 j.toNat) h1 else .stuck
  | _ => .stuck
def aItR2 (l : AL) : AIt := fun σ h => (l σ h).bind fun xs h1 => match xs with
  | [.int i, .int j] => if -(2 ^ 62) ≤ i ∧ i < 2 ^ 62 ∧ -(2 ^ 62) ≤ j ∧ j < 2 ^ 62 then .ok (itRg i (j - i).toNat) h1 else .stuck
  | _ => .stuck
theorem ji_rg1 {tg a : Expr} {l : AL} {p pos : Pos} (hm : X.mg "range" = none) (ha : JA X W [a] l) (hg : Gl X "range" := by rfl) (hs : starEach [a] X.env = [(false, eval a X.env)] := by rfl) : JI X W tg (.Call (.Name "range" p) [a] [] pos) (aItR1 l) :=
  ⟨PImono (pi_range1 hg hm ha.pa hs) fun τ H Rk ⟨ρ, h, σ, R, S, o⟩ => ⟨ρ, h, σ, R, S, (Out.bind (R := RVs (cxKW X)) o).mono fun x H1 ⟨ρ1, v, h1, e1, R1, q1, o1⟩ => by
    split at o1
    · rename_i j
      split at o1
      · rename_i c
        obtain ⟨w, rfl, q⟩ := one_inv q1
        exact ⟨j, by rw [q.int_inv], c.1, c.2, Out.done o1 R1 (aiok_rg _ _)⟩
      · exact o1.elim
    · exact o1.elim⟩⟩
theorem ji_rg2 {tg a b : Expr} {l : AL} {p pos : Pos} (hm : X.mg "range" = none) (ha : JA X W [a, b] l) (hg : Gl X "range" := by rfl) (hs : starEach [a, b] X.env = [(false, eval a X.env), (false, eval b X.env)] := by rfl) (hs2 : starEach [b] X.env = [(false, eval b X.env)] := by rfl) :
    JI X W tg (.Call (.Name "range" p) [a, b] [] pos) (aItR2 l) :=
  ⟨PImono (pi_range2 hg hm ha.pa hs hs2) fun τ H Rk ⟨ρ, h, σ, R, S, o⟩ => ⟨ρ, h, σ, R, S, (Out.bind (R := RVs (cxKW X)) o).mono fun x H1 ⟨ρ1, v, h1, e1, R1, q1, o1⟩ => by
    split at o1
    · rename_i i j
      split at o1
      · rename_i c
        obtain ⟨w, w', rfl, q, q'⟩ := two_inv q1
        exact ⟨i, j, by rw [q.int_inv, q'.int_inv], c, Out.done o1 R1 (aiok_rg _ _)⟩
      · exact o1.elim
    · exact o1.elim⟩⟩
/-- enumerate(list) -/
def itEnum (a : AI) : AI := ⟨a.n, fun i h => (a.nxt i h).map fun o => o.map fun x => .tup [.int (i : Nat), x]⟩
def aItE (l : AL) : AIt := fun σ h => (l σ h).bind fun xs h1 => match xs with
  | [v] => (itL v h1).bind fun a h2 => .ok (itEnum a) h2
  | _ => .stuck
theorem tup2_ok {ρ : List Addr} {h : AH} {H : Hp} {T : Addr} {x y : PV} {v w : V} (R : Rep K ρ h H) (hT : H T = none) (r1 : RV K ρ H x v) (r2 : RV K ρ H y w) :
    Ext ρ H ρ (upd H T (.tup [v, w])) ∧ Rep K ρ h (upd H T (.tup [v, w])) ∧ RV K ρ (upd H T (.tup [v, w])) (.tup [x, y]) (.ref T) :=
  ⟨.fresh hT, R.fresh hT, .tup [v, w] (.inl ⟨.inl upd_same, R.notin hT⟩) rfl ((RVs.cons r1 (.cons r2 .nil)).mono (.fresh hT)).at_⟩
theorem aiok_enum {ρ0 : List Addr} {H0 : Hp} {a : AI} {p : Addr} (k : AIok K ρ0 H0 a (Itl K.fr p)) : AIok K ρ0 H0 (itEnum a) (Ite K.fr p) := fun i ρ h H e R => by
  have q := k i ρ h H e R
  unfold itEnum
  dsimp only
  cases c : a.nxt i h with
  | none => trivial
  | some o =>
    rw [c] at q
    cases o with
    | none => exact q
    | some x =>
      obtain ⟨⟨xs, y, s, ey⟩, g⟩ := q
      refine ⟨⟨xs, y, s, ey⟩, fun v H' ⟨T, z, e1, hT, e2, f⟩ => ?_⟩
      have ez := f xs s
      rw [ey] at ez; cases ez
      obtain ⟨_, _, rz⟩ := g y H ⟨rfl, fun xs' s' => f xs' s'⟩
      subst e1; subst e2
      exact tup2_ok R hT (.int _) rz
theorem ji_enum {elts : List Expr} {kk : Nat} {tpos p pos : Pos} {e : Expr} {l : AL} (hm : X.mg "enumerate" = none) (ha : JA X W [e] l) (hg : Gl X "enumerate" := by rfl) (hs : starEach [e] X.env = [(false, eval e X.env)] := by rfl) :
    JI X W (.Tuple elts kk tpos) (.Call (.Name "enumerate" p) [e] [] pos) (aItE l) :=
  ⟨PImono (pi_enum hg hm ha.pa hs) fun τ H Rk ⟨ρ, h, σ, R, S, o⟩ => ⟨ρ, h, σ, R, S, (Out.bind (R := RVs (cxKW X)) o).mono fun x H1 ⟨ρ1, v, h1, e1, R1, q1, o1⟩ => by
    split at o1
    · rename_i v
      obtain ⟨w, rfl, q⟩ := one_inv q1
      unfold itL at o1
      split at o1
      · rename_i xs c
        obtain ⟨p, vs, rfl, s, _⟩ := lst_of R1 q c
        refine ⟨p, vs, rfl, s, ?_⟩
        split at o1
        · exact Out.done o1 R1 (aiok_enum (aiok_lst q))
        · rename_i hv
          refine Out.done o1 R1 (aiok_enum (aiok_vals q fun h => ?_))
          cases v with
          | lst ys => exact c
          | ro ys => exact c
          | loc n => exact absurd rfl (hv n)
          | _ => cases c
      · exact o1.elim
    · exact o1.elim⟩⟩
/-! ### for -/
def forA (a : AI) (g : AG) (body : AS) : Nat → Nat → AS
  | n, i => fun σ h => match a.nxt i h with
    | none => .stuck
    | some none => .fin .nx σ h
    | some (some x) => match n with
      | 0 => .stuck
      | n + 1 => match g x σ h with
        | none => .stuck
        | some (σ1, h1) => match body σ1 h1 with
          | .fin .nx σ2 h2 => forA a g body n (i + 1) σ2 h2
          | .fin .ct σ2 h2 => forA a g body n (i + 1) σ2 h2
          | .fin .bk σ2 h2 => .fin .nx σ2 h2
          | r => r
def sFor (m : AIt) (g : AG) (body : AS) : AS := fun σ h => liftS (m σ h) σ fun a h1 => forA a g body a.n 0 σ h1
theorem js_for {tg iter : Expr} {m : AIt} {g : AG} {body : List Stmt} {mb : AS} {pos : Pos} (hp : PassesOwn (model X.prog X.w) X.A X.env X.xe) (hc : X.calm = true) (hi : JI X W tg iter m) (hg : JG X tg g) (hb : JSs X W body mb)
    (hs : ∀ x, foldedSetIterable iter X.env x = pure x := by intro _; rfl) : JS X W (.For tg iter body [] pos) (sFor m g mb) := by
  refine ⟨PSmono (ps_for hp hc hi.pi hg.pg hb.pss hs) fun D τ H ⟨ρ, h, σ, R, S, o⟩ => ⟨ρ, h, σ, R, S, (OutS.lift (R := AIok (cxKW X)) S o).mono fun J H1 ⟨ρ1, a, h1, e1, R1, q1, o1⟩ => ?_⟩⟩
  refine ⟨fun i n τ H => ∃ ρ h σ, Ext ρ1 H1 ρ H ∧ Rep (cxKW X) ρ h H ∧ RS (cxKW X) ρ H σ τ ∧ OutS (cxKW X) W ρ H (forA a g mb n i σ h) D, ⟨a.n, ρ1, h1, σ, .refl, R1, S.mono e1, o1⟩, ?_⟩
  rintro i n τ2 H2 ⟨ρ2, h2, σ2, e2, R2, S2, o2⟩
  have q2 := q1 i ρ2 h2 H2 e2 R2
  unfold forA at o2
  cases c : a.nxt i h2 with
  | none => rw [c] at o2; exact o2.elim
  | some ox =>
    rw [c] at o2 q2
    cases ox with
    | none => exact .inl ⟨q2, o2 ρ2 τ2 H2 .refl R2 S2⟩
    | some x =>
      cases n with
      | zero => exact o2.elim
      | succ n =>
        refine .inr ⟨q2.1, fun τ H => ∃ ρ h σ, Ext ρ1 H1 ρ H ∧ Rep (cxKW X) ρ h H ∧ RS (cxKW X) ρ H σ τ ∧ OutS (cxKW X) W ρ H (forA a g mb n (i + 1) σ h) D, fun τ' H' k => ⟨n, Nat.lt_succ_self _, k⟩, fun v H3 y => ?_⟩
        obtain ⟨e3, R3, r3⟩ := q2.2 v H3 y
        have S3 := S2.mono e3
        refine ⟨ρ2, h2, σ2, x, R3, S3, r3, ?_⟩
        dsimp only at o2
        cases cg : g x σ2 h2 with
        | none => rw [cg] at o2; exact o2.elim
        | some p =>
          obtain ⟨σ4, h4⟩ := p
          rw [cg] at o2
          intro ρ4 τ4 H4 e4 R4 S4
          refine ⟨ρ4, h4, σ4, R4, S4, ?_⟩
          have e04 : Ext ρ1 H1 ρ4 H4 := e2.trans (e3.trans e4)
          dsimp only at o2
          cases cb : mb σ4 h4 with
          | fin f σ5 h5 =>
            rw [cb] at o2
            cases f with
            | nx => exact fun ρ5 τ5 H5 e5 R5 S5 => ⟨ρ5, h5, σ5, e04.trans e5, R5, S5, OutS.later o2 (e3.trans (e4.trans e5))⟩
            | ct => exact fun ρ5 τ5 H5 e5 R5 S5 => ⟨ρ5, h5, σ5, e04.trans e5, R5, S5, OutS.later o2 (e3.trans (e4.trans e5))⟩
            | bk => exact fun ρ5 τ5 H5 e5 R5 S5 => o2 ρ5 τ5 H5 (e3.trans (e4.trans e5)) R5 S5
            | rt v => exact fun ρ5 τ5 H5 e5 R5 S5 => o2 ρ5 τ5 H5 (e3.trans (e4.trans e5)) R5 S5
          | exc cc fs σ5 h5 => rw [cb] at o2; exact fun ρ5 τ5 H5 d e5 R5 S5 xd => o2 ρ5 τ5 H5 d (e3.trans (e4.trans e5)) R5 S5 xd
          | stuck => rw [cb] at o2; exact o2.elim
/-! ### while -/
def whileF (c : AT) (body : AS) : Nat → AS
  | 0 => fun _ _ => .stuck
  | n + 1 => fun σ h => liftS (c σ h) σ fun x h1 => if x = true then (match body σ h1 with
    | .fin .nx σ2 h2 => whileF c body n σ2 h2
    | .fin .ct σ2 h2 => whileF c body n σ2 h2
    | .fin .bk σ2 h2 => .fin .nx σ2 h2
    | r => r) else .fin .nx σ h1
theorem whileF_s (c : AT) (body : AS) (n : Nat) (σ : ASt) (h : AH) : whileF c body (n + 1) σ h = liftS (c σ h) σ fun x h1 => if x = true then (match body σ h1 with
    | .fin .nx σ2 h2 => whileF c body n σ2 h2
    | .fin .ct σ2 h2 => whileF c body n σ2 h2
    | .fin .bk σ2 h2 => .fin .nx σ2 h2
    | r => r) else .fin .nx σ h1 := rfl
theorem whileF_more (c : AT) (body : AS) : ∀ (n : Nat) (σ : ASt) (h : AH) (r : SRes), whileF c body n σ h = r → r ≠ .stuck → whileF c body (n + 1) σ h = r
  | 0, σ, h, r, e, ne => absurd e.symm ne
  | n + 1, σ, h, r, e, ne => by
    rw [whileF_s] at e ⊢
    cases cc : c σ h with
    | exc _ _ _ => rw [cc] at e; exact e
    | stuck => rw [cc] at e; exact e
    | ok x h1 =>
      rw [cc] at e
      simp only [liftS_ok] at e ⊢
      cases x with
      | false => exact e
      | true =>
        rw [if_pos rfl] at e ⊢
        cases cb : body σ h1 with
        | stuck => rw [cb] at e; exact e
        | exc _ _ _ _ => rw [cb] at e; exact e
        | fin f σ2 h2 =>
          rw [cb] at e
          cases f with
          | nx => exact whileF_more c body n σ2 h2 r e ne
          | ct => exact whileF_more c body n σ2 h2 r e ne
          | bk => exact e
          | rt v => exact e
theorem whileF_le (c : AT) (body : AS) {n m : Nat} (hm : n ≤ m) {σ : ASt} {h : AH} {r : SRes} (e : whileF c body n σ h = r) (ne : r ≠ .stuck) : whileF c body m σ h = r := by
  induction m with
  | zero => have : n = 0 := by omega
            subst this; exact e
  | succ m ih =>
    by_cases hh : n = m + 1
    · subst hh; exact e
    · exact whileF_more c body m σ h r (ih (by omega)) ne
open Classical in
noncomputable def sWhile (c : AT) (body : AS) : AS := fun σ h => if ex : ∃ n, whileF c body n σ h ≠ .stuck then whileF c body ex.choose σ h else .stuck
theorem sWhile_of {c : AT} {body : AS} {n : Nat} {σ : ASt} {h : AH} {r : SRes} (e : whileF c body n σ h = r) (ne : r ≠ .stuck) : sWhile c body σ h = r := by
  have ex : ∃ n, whileF c body n σ h ≠ .stuck := ⟨n, by rw [e]; exact ne⟩
  unfold sWhile
  rw [dif_pos ex]
  have h1 := whileF_le c body (Nat.le_max_left ex.choose n) rfl ex.choose_spec
  have h2 := whileF_le c body (Nat.le_max_right ex.choose n) e ne
  exact h1.symm.trans h2
theorem sWhile_ex {c : AT} {body : AS} {σ : ASt} {h : AH} (ne : sWhile c body σ h ≠ .stuck) : ∃ n, whileF c body n σ h = sWhile c body σ h := by
  unfold sWhile at ne ⊢
  split at ne
  · rename_i ex
    rw [dif_pos ex]; exact ⟨_, rfl⟩
  · exact absurd rfl ne
/-- one turn -/
theorem sWhile_eq (c : AT) (body : AS) (σ : ASt) (h : AH) : sWhile c body σ h = liftS (c σ h) σ fun x h1 => if x = true then (match body σ h1 with
    | .fin .nx σ2 h2 => sWhile c body σ2 h2
    | .fin .ct σ2 h2 => sWhile c body σ2 h2
    | .fin .bk σ2 h2 => .fin .nx σ2 h2
    | r => r) else .fin .nx σ h1 := by
  generalize hr : (liftS (c σ h) σ fun x h1 => if x = true then (match body σ h1 with
    | .fin .nx σ2 h2 => sWhile c body σ2 h2
    | .fin .ct σ2 h2 => sWhile c body σ2 h2
    | .fin .bk σ2 h2 => SRes.fin .nx σ2 h2
    | r => r) else SRes.fin .nx σ h1) = r
  by_cases ne : r = .stuck
  · rw [ne] at hr ⊢
    apply Classical.byContradiction
    intro nn
    obtain ⟨n, en⟩ := sWhile_ex nn
    cases n with
    | zero => exact nn en.symm
    | succ n =>
      rw [whileF_s] at en
      cases cc : c σ h with
      | exc _ _ _ => rw [cc] at en hr; rw [← en] at nn; exact nn hr
      | stuck => rw [cc] at en hr; rw [← en] at nn; exact nn rfl
      | ok x h1 =>
        rw [cc] at en hr
        simp only [liftS_ok] at en hr
        cases x with
        | false => cases hr
        | true =>
          rw [if_pos rfl] at en hr
          cases cb : body σ h1 with
          | stuck => rw [cb] at en; exact nn en.symm
          | exc _ _ _ _ => rw [cb] at hr; cases hr
          | fin f σ2 h2 =>
            rw [cb] at en hr
            cases f with
            | nx =>
              dsimp only at en hr
              have := sWhile_of en nn
              rw [hr] at this; exact nn this.symm
            | ct =>
              dsimp only at en hr
              have := sWhile_of en nn
              rw [hr] at this; exact nn this.symm
            | bk => cases hr
            | rt v => cases hr
  · have key : ∃ n, whileF c body n σ h = r := by
      cases cc : c σ h with
      | exc a b d => rw [cc] at hr; exact ⟨1, by rw [whileF_s, cc]; exact hr⟩
      | stuck => rw [cc] at hr; exact absurd hr.symm ne
      | ok x h1 =>
        rw [cc] at hr
        simp only [liftS_ok] at hr
        cases x with
        | false => exact ⟨1, by rw [whileF_s, cc]; exact hr⟩
        | true =>
          rw [if_pos rfl] at hr
          cases cb : body σ h1 with
          | stuck => rw [cb] at hr; exact absurd hr.symm ne
          | exc a b d e => rw [cb] at hr; exact ⟨1, by rw [whileF_s, cc, liftS_ok, if_pos rfl, cb]; exact hr⟩
          | fin f σ2 h2 =>
            rw [cb] at hr
            cases f with
            | nx =>
              dsimp only at hr
              obtain ⟨n, en⟩ := sWhile_ex (c := c) (body := body) (σ := σ2) (h := h2) (by rw [hr]; exact ne)
              exact ⟨n + 1, by rw [whileF_s, cc, liftS_ok, if_pos rfl, cb]; exact en.trans hr⟩
            | ct =>
              dsimp only at hr
              obtain ⟨n, en⟩ := sWhile_ex (c := c) (body := body) (σ := σ2) (h := h2) (by rw [hr]; exact ne)
              exact ⟨n + 1, by rw [whileF_s, cc, liftS_ok, if_pos rfl, cb]; exact en.trans hr⟩
            | bk => exact ⟨1, by rw [whileF_s, cc, liftS_ok, if_pos rfl, cb]; exact hr⟩
            | rt v => exact ⟨1, by rw [whileF_s, cc, liftS_ok, if_pos rfl, cb]; exact hr⟩
    obtain ⟨n, en⟩ := key
    exact sWhile_of en ne
theorem js_while {c : Expr} {body : List Stmt} {mc : AT} {mb : AS} {pos : Pos} (hp : PassesOwn (model X.prog X.w) X.A X.env X.xe) (hc : JT X W c mc) (hb : JSs X W body mb) : JS X W (.While c body [] pos) (sWhile mc mb) := by
  refine ⟨PSmono (ps_while hp hc.pt hb.pss) fun D τ H ⟨ρ, h, σ, R, S, o⟩ => ?_⟩
  have nn : sWhile mc mb σ h ≠ .stuck := fun z => by rw [z] at o; exact o
  obtain ⟨n0, en⟩ := sWhile_ex nn
  refine ⟨fun n τ H => ∃ ρ h σ, Rep (cxKW X) ρ h H ∧ RS (cxKW X) ρ H σ τ ∧ OutS (cxKW X) W ρ H (whileF mc mb n σ h) D, ⟨n0, ρ, h, σ, R, S, by rw [en]; exact o⟩, ?_⟩
  rintro n τ2 H2 ⟨ρ2, h2, σ2, R2, S2, o2⟩
  cases n with
  | zero => exact o2.elim
  | succ n =>
    rw [whileF_s] at o2
    refine ⟨ρ2, h2, σ2, R2, S2, (OutS.lift (R := fun _ _ (a b : Bool) => a = b) S2 o2).mono fun x H3 ⟨ρ3, v, h3, e3, R3, q3, o3⟩ => ?_⟩
    subst q3
    cases v with
    | false => rw [if_neg Bool.false_ne_true] at o3 ⊢; exact o3 ρ3 τ2 H3 .refl R3 (S2.mono e3)
    | true =>
      rw [if_pos rfl] at o3 ⊢
      refine ⟨fun τ H => ∃ ρ h σ, Rep (cxKW X) ρ h H ∧ RS (cxKW X) ρ H σ τ ∧ OutS (cxKW X) W ρ H (whileF mc mb n σ h) D, fun τ' H' k => ⟨n, Nat.lt_succ_self _, k⟩, ρ3, h3, σ2, R3, S2.mono e3, ?_⟩
      cases cb : mb σ2 h3 with
      | stuck => rw [cb] at o3; exact o3.elim
      | exc cc fs σ5 h5 => rw [cb] at o3; exact o3
      | fin f σ5 h5 =>
        rw [cb] at o3
        cases f with
        | nx => exact fun ρ5 τ5 H5 e5 R5 S5 => ⟨ρ5, h5, σ5, R5, S5, OutS.later o3 e5⟩
        | ct => exact fun ρ5 τ5 H5 e5 R5 S5 => ⟨ρ5, h5, σ5, R5, S5, OutS.later o3 e5⟩
        | bk => exact o3
        | rt v => exact o3
end
end AB

/-! AB7: comprehensions, defs, calls -/
namespace AB
open PySem PySem.Spec
open PyProof.Rows hiding St
open L2
section
variable {X : Cx} {W : WX} {K : KW}
abbrev W0 : WX := fun _ _ _ _ => False
/-! ### targets that change some slots alone -/
structure JGw (X : Cx) (vs : List Nat) (tg : Expr) (g : AG) : Prop where
  pg : PG X tg (fun v τ H Q => ∃ ρ h σ x, Rep (cxKW X) ρ h H ∧ RS (cxKW X) ρ H σ τ ∧ RV (cxKW X) ρ H x v ∧ OutG (cxKW X) ρ H (g x σ h) fun τ' H' => wipe τ' vs = wipe τ vs → Q τ' H')
structure JGsw (X : Cx) (vs : List Nat) (ts : List Expr) (g : AGs) : Prop where
  pgs : PGs X ts (fun v τ H Q => ∃ ρ h σ x, Rep (cxKW X) ρ h H ∧ RS (cxKW X) ρ H σ τ ∧ RVs (cxKW X) ρ H x v ∧ OutG (cxKW X) ρ H (g x σ h) fun τ' H' => wipe τ' vs = wipe τ vs → Q τ' H')
theorem wipe_comm (σ : St) (i : Nat) (o : Option V) : ∀ (vs : List Nat), i ∈ vs → wipe (σ.set i o) vs = wipe σ vs
  | [], h => by simp at h
  | v :: vs, h => by
    show (wipe (σ.set i o) vs).set v none = (wipe σ vs).set v none
    by_cases e : i ∈ vs
    · rw [wipe_comm σ i o vs e]
    · have ev : i = v := by
        rcases List.mem_cons.mp h with z | z
        · exact z
        · exact absurd z e
      subst ev
      have : ∀ (us : List Nat), i ∉ us → wipe (σ.set i o) us = (wipe σ us).set i o := by
        intro us
        induction us with
        | nil => intro _; rfl
        | cons u us ih =>
          intro hu
          show (wipe (σ.set i o) us).set u none = ((wipe σ us).set u none).set i o
          rw [ih (fun z => hu (List.mem_cons_of_mem _ z)), List.set_comm _ _ (fun z => hu (by rw [z]; exact List.mem_cons_self))]
      rw [this vs e, List.set_set]
theorem jgw_name (i : Nat) {vs : List Nat} {x : Str} {pos : Pos} (hN : X.N.Nodup) (hv : i ∈ vs := by decide) (hi : X.N[i]? = some x := by rfl) (hx : Loc X.env.scope x := by first | exact Or.inl rfl | exact Or.inr rfl) (hf : X.fn x = true ∨ X.env.scope.names.lookup x = some .local := by first | exact .inl rfl | exact .inr rfl) : JGw X vs (.Name x pos) (gN i) :=
  ⟨PGmono (pg_name (i := i) hN hi hx hf) fun v τ H Q ⟨ρ, h, σ, y, R, S, r, o⟩ => o ρ _ H .refl R (S.set i r) (wipe_comm τ i _ vs hv)⟩
theorem jgsw_nil {vs : List Nat} : JGsw X vs [] gNil' := ⟨PGsmono pgs_nil fun v τ H Q ⟨ρ, h, σ, y, R, S, r, o⟩ => by
  cases y with
  | nil => exact ⟨r.nil_inv, o ρ τ H .refl R S rfl⟩
  | cons a t => exact o.elim⟩
theorem jgsw_cons {vs : List Nat} {e : Expr} {es : List Expr} {g : AG} {u : AGs} (h1 : JGw X vs e g) (h2 : JGsw X vs es u) (hs : (assignEach (e :: es) X.env).map (·.2) = assign e X.env :: (assignEach es X.env).map (·.2) := by rfl) : JGsw X vs (e :: es) (gCons' g u) :=
  ⟨PGsmono (pgs_cons h1.pg h2.pgs hs) fun v τ H Q ⟨ρ, h, σ, y, R, S, r, o⟩ => by
    cases y with
    | nil => exact o.elim
    | cons a t =>
      obtain ⟨w, ws, rfl, q, s⟩ := r.cons_inv
      refine ⟨w, ws, rfl, ρ, h, σ, a, R, S, q, ?_⟩
      dsimp only [gCons'] at o
      cases c : g a σ h with
      | none => rw [c] at o; exact o.elim
      | some p =>
        obtain ⟨σ1, h1⟩ := p
        rw [c] at o
        exact fun ρ1 τ1 H1 e1 R1 S1 w1 => ⟨ρ1, h1, σ1, t, R1, S1, s.mono e1, (OutG.later o e1).mono fun τ2 H2 q w2 => q (w2.trans w1)⟩⟩
theorem jgw_tup {vs : List Nat} {es : List Expr} {k : Nat} {g : AGs} {n : Nat} {pos : Pos} (hc : X.calm = true) (h : JGsw X vs es g) (hn : (assignEach es X.env).length = n := by rfl) (hst : (assignEach es X.env).findIdx? (·.1) = none := by rfl) : JGw X vs (.Tuple es k pos) (gTup' n g) :=
  ⟨PGmono (pg_tup hc h.pgs hn hst) fun v τ H Q ⟨ρ, h, σ, y, R, S, r, o⟩ => by
    cases y with
    | tup xs =>
      obtain ⟨p, vs, rfl, f, q⟩ := r.tup_inv
      dsimp only [gTup'] at o
      split at o
      · rename_i hz
        exact ⟨p, vs, rfl, f.sq, by rw [q.len]; exact hz, ρ, h, σ, xs, R, S, q, o⟩
      · exact o.elim
    | _ => exact o.elim⟩
/-! ### [e for target in iter if test] -/
def wipeA (σ : ASt) : List Nat → ASt
  | [] => σ
  | v :: vs => (wipeA σ vs).set v none
theorem RS.wipe {ρ : List Addr} {H : Hp} {σ : ASt} {τ : St} (S : RS K ρ H σ τ) : ∀ vs : List Nat, RS K ρ H (wipeA σ vs) (L2.wipe τ vs)
  | [] => S
  | v :: vs => (RS.wipe S vs).unset v none
structure JTs (X : Cx) (W : WX) (ifs : List Expr) (m : AT) : Prop where
  pt : PTs X ifs (LT (cxKW X) W m)
theorem PTsmono {e : List Expr} {t t' : TT} (p : PTs X e t) (i : ∀ σ H Q, t' σ H Q → t σ H Q) : PTs X e t' := ⟨fun pins s σ H Q I h => p.run pins s σ H Q I (i σ H Q h)⟩
def tYes' : AT := fun _ h => .ok true h
theorem jts_nil : JTs X W [] tYes' := ⟨PTsmono pts_nil fun τ H Q ⟨ρ, h, σ, R, S, o⟩ => Out.done o R rfl⟩
theorem jts_one {c : Expr} {m : AT} (hc : JT X W c m) : JTs X W [c] m := ⟨pts_one hc.pt⟩
def lcA (a : AI) (vs : List Nat) (g : AG) (t : AT) (e : AE) (σ : ASt) (d : Nat) : Nat → Nat → AH → Res PV
  | n, i, h => match a.nxt i h with
    | none => .stuck
    | some none => .ok (.loc d) h
    | some (some x) => match n with
      | 0 => .stuck
      | n + 1 => match g x (wipeA σ vs) h with
        | none => .stuck
        | some (σ1, h1) => match t σ1 h1 with
          | .ok true h2 => match e σ1 h2 with
            | .ok y h3 => match h3[d]? with
              | some (.lst acc) => if acc.length < sizeLine then lcA a vs g t e σ d n (i + 1) (h3.set d (.lst (acc ++ [y]))) else .stuck
              | _ => .stuck
            | _ => .stuck
          | .ok false h2 => lcA a vs g t e σ d n (i + 1) h2
          | _ => .stuck
def aLc (m : AIt) (vs : List Nat) (g : AG) (t : AT) (e : AE) : AE := fun σ h => (m σ h).bind fun a h1 => lcA a vs g t e σ h1.length a.n 0 (h1 ++ [.lst []])
/-- the reading of a comprehension -/
theorem le_lc {m : AIt} {vs : List Nat} {g : AG} {t : AT} {e : AE} {τ : St} {H : Hp} {Q : VK} (o : LE K W (aLc m vs g t e) τ H Q) :
    tLc (LI K W m) (fun v τ H Q => ∃ ρ h σ x, Rep K ρ h H ∧ RS K ρ H σ τ ∧ RV K ρ H x v ∧ OutG K ρ H (g x σ h) fun τ' H' => L2.wipe τ' vs = L2.wipe τ vs → Q τ' H') (LT K W0 t) (LE K W0 e) vs τ H Q := by
  obtain ⟨ρ, h, σ, R, S, o⟩ := o
  refine ⟨ρ, h, σ, R, S, (Out.bind (R := AIok K) o).mono fun J H1 ⟨ρ1, a, h1, e1, R1, q1, o1⟩ => ?_⟩
  intro D hD
  have x1 : Ext ρ1 H1 (ρ1 ++ [D]) (upd H1 D (.lst [])) := .push hD
  have R1' : Rep K (ρ1 ++ [D]) (h1 ++ [.lst []]) (upd H1 D (.lst [])) := R1.push hD ⟨[], upd_same, .nil⟩
  have ed : (ρ1 ++ [D])[h1.length]? = some D := by rw [← R1.len]; simp
  have S1 := (S.mono e1).mono x1
  refine ⟨fun i n H => ∃ ρ h, Ext (ρ1 ++ [D]) (upd H1 D (.lst [])) ρ H ∧ Rep K ρ h H ∧ OutE K W ρ τ H (lcA a vs g t e σ h1.length n i h) Q, ⟨a.n, ρ1 ++ [D], _, .refl, R1', Out.later o1 x1⟩, ?_⟩
  rintro i n H2 ⟨ρ2, h2, e2, R2, o2⟩
  have q2 := q1 i ρ2 h2 H2 (x1.trans e2) R2
  unfold lcA at o2
  cases c : a.nxt i h2 with
  | none => rw [c] at o2; exact o2.elim
  | some ox =>
    rw [c] at o2 q2
    cases ox with
    | none => exact .inl ⟨q2, Out.done o2 R2 (.loc (e2.get ed))⟩
    | some x =>
      cases n with
      | zero => exact o2.elim
      | succ n =>
        refine .inr ⟨q2.1, fun H => ∃ ρ h, Ext (ρ1 ++ [D]) (upd H1 D (.lst [])) ρ H ∧ Rep K ρ h H ∧ OutE K W ρ τ H (lcA a vs g t e σ h1.length n (i + 1) h) Q, fun H' k => ⟨n, Nat.lt_succ_self _, k⟩, fun v H3 y => ?_⟩
        obtain ⟨e3, R3, r3⟩ := q2.2 v H3 y
        have e03 := e2.trans e3
        refine ⟨ρ2, h2, wipeA σ vs, x, R3, (S1.mono e03).wipe vs, r3, ?_⟩
        dsimp only at o2
        cases cg : g x (wipeA σ vs) h2 with
        | none => rw [cg] at o2; exact o2.elim
        | some p =>
          obtain ⟨σ4, h4⟩ := p
          rw [cg] at o2
          intro ρ4 τ4 H4 e4 R4 S4 w4
          have ww : L2.wipe (L2.wipe τ vs) vs = L2.wipe τ vs := by
            have : ∀ (us : List Nat), (∀ u ∈ us, u ∈ vs) → L2.wipe (L2.wipe τ us) vs = L2.wipe τ vs := by
              intro us
              induction us with
              | nil => intro _; rfl
              | cons u us ih =>
                intro hu
                show L2.wipe ((L2.wipe τ us).set u none) vs = _
                rw [wipe_comm _ u none vs (hu u List.mem_cons_self)]
                exact ih fun z hz => hu z (List.mem_cons_of_mem _ hz)
            exact this vs fun _ hz => hz
          refine ⟨w4.trans ww, ρ4, h4, σ4, R4, S4, ?_⟩
          dsimp only at o2
          cases ct : t σ4 h4 with
          | exc _ _ _ => rw [ct] at o2; exact o2.elim
          | stuck => rw [ct] at o2; exact o2.elim
          | ok k h5 =>
            rw [ct] at o2
            intro ρ5 H5 b e5 R5 eb
            subst eb
            have e05 := e3.trans (e4.trans e5)
            cases k with
            | false =>
              rw [if_neg Bool.false_ne_true]
              exact ⟨ρ5, h5, e2.trans e05, R5, Out.later o2 e05⟩
            | true =>
              rw [if_pos rfl]
              dsimp only at o2
              refine ⟨ρ5, h5, σ4, R5, S4.mono e5, ?_⟩
              cases ce : e σ4 h5 with
              | exc _ _ _ => rw [ce] at o2; exact o2.elim
              | stuck => rw [ce] at o2; exact o2.elim
              | ok y h6 =>
                rw [ce] at o2
                dsimp only at o2
                intro ρ6 H6 v6 e6 R6 r6
                split at o2
                · rename_i acc ea
                  split at o2
                  · rename_i hz
                    have e06 := e05.trans e6
                    have ep := (e2.trans e06).get ed
                    obtain ⟨us, eu, q⟩ := R6.obj _ _ _ ep ea
                    refine ⟨us, eu, by rw [q.len]; exact hz, ?_⟩
                    have x7 : Ext ρ6 H6 ρ6 (upd H6 D (.lst (us ++ [v6]))) := .write ep (nfL eu)
                    exact ⟨ρ6, _, (e2.trans e06).trans x7, R6.write (u := .lst (acc ++ [y])) ep (nfL eu) ⟨_, upd_same, (q.append (.cons r6 .nil)).mono x7⟩, Out.later o2 (e06.trans x7)⟩
                  · exact o2.elim
                · exact o2.elim
/-- blocks of a comprehension -/
abbrev Blk (X : Cx) (scope : Scope) (s : Shared) (H : Hp) (C : Addr) (cl : List (Str × Addr)) (fp : List Addr) : Cx := X.blk s H scope (compEnvC scope cl C X.env) fp
theorem je_lc {elt tg iter : Expr} {ifs : List Expr} {scope : Scope} {own : List (Str × Nat)} {pos : Pos} {m : AIt} {g : AG} {t : AT} {e : AE} (hc : X.calm = true) (hN : X.N.Nodup) (hi : JI X W tg iter m) (ok : BlkOk X.N X.env.scope scope own)
    (hg : ∀ (s : Shared) (H : Hp) (C : Addr) (cl : List (Str × Addr)) (fp : List Addr), JGw (Blk X scope s H C cl fp) (own.map (·.2)) tg g) (ht : ∀ (s : Shared) (H : Hp) (C : Addr) (cl : List (Str × Addr)) (fp : List Addr), JTs (Blk X scope s H C cl fp) W0 ifs t)
    (he : ∀ (s : Shared) (H : Hp) (C : Addr) (cl : List (Str × Addr)) (fp : List Addr), JE (Blk X scope s H C cl fp) W0 elt e) (hs : ∀ x, foldedSetIterable iter X.env x = pure x := by intro _; rfl) :
    JE X W (.ListComp elt [⟨tg, iter, ifs, 0⟩] scope pos) (aLc m (own.map (·.2)) g t e) :=
  ⟨PEmono (pe_lc (own := own) hc hN hi.pi ok (fun s H C cl fp => (hg s H C cl fp).pg) (fun s H C cl fp => (ht s H C cl fp).pt) (fun s H C cl fp => (he s H C cl fp).pe) hs) fun τ H Q o => le_lc o⟩
theorem js_setLc (i : Nat) {y : Str} {py : Pos} {elt tg iter : Expr} {ifs : List Expr} {scope : Scope} {own : List (Str × Nat)} {pos spos : Pos} {m : AIt} {g : AG} {t : AT} {e : AE} (hc : X.calm = true) (hN : X.N.Nodup) (hi : JI X W tg iter m) (ok : BlkOk X.N X.env.scope scope own)
    (hg : ∀ (s : Shared) (H : Hp) (C : Addr) (cl : List (Str × Addr)) (fp : List Addr), JGw (Blk X scope s H C cl fp) (own.map (·.2)) tg g) (ht : ∀ (s : Shared) (H : Hp) (C : Addr) (cl : List (Str × Addr)) (fp : List Addr), JTs (Blk X scope s H C cl fp) W0 ifs t)
    (he : ∀ (s : Shared) (H : Hp) (C : Addr) (cl : List (Str × Addr)) (fp : List Addr), JE (Blk X scope s H C cl fp) W0 elt e)
    (hsw : swapsWith (.ListComp elt [⟨tg, iter, ifs, 0⟩] scope pos) (some (.Name y py)) spos.line X.env = pure true := by exact sw_true rfl rfl rfl (by decide +kernel))
    (hy : X.N[i]? = some y := by rfl) (hyl : X.env.scope.names.lookup y = some .local := by rfl) (hs : ∀ x, foldedSetIterable iter X.env x = pure x := by intro _; rfl) :
    JS X W (.Assign [.Name y py] (.ListComp elt [⟨tg, iter, ifs, 0⟩] scope pos) spos) (sSet i (aLc m (own.map (·.2)) g t e)) :=
  ⟨PSmono (ps_setLc (i := i) (own := own) hc hN hy hyl hsw hi.pi ok (fun s H C cl fp => (hg s H C cl fp).pg) (fun s H C cl fp => (ht s H C cl fp).pt) (fun s H C cl fp => (he s H C cl fp).pe) hs) fun D τ H ⟨ρ, h, σ, R, S, o⟩ =>
    le_lc ⟨ρ, h, σ, R, S, (OutS.lift (R := RV (cxKW X)) S o).mono fun x H1 ⟨ρ1, v, h1, e1, R1, q1, o1⟩ => o1 ρ1 _ H1 .refl R1 ((S.mono e1).set i q1)⟩⟩
/-- cut, where the statement stores the list -/
theorem js_cut (i : Nat) {st : Stmt} {m : AE} (hs : JS X W st (sSet i m)) : JS X W st (sSet i (aCut m)) :=
  ⟨PSmono hs.ps fun D τ H ⟨ρ, h, σ, R, S, o⟩ => ⟨ρ, h, σ, R, S, by
    unfold sSet aCut at o
    unfold sSet
    cases c : m σ h with
    | exc _ _ _ => rw [c] at o; exact o
    | stuck => rw [c] at o; exact o
    | ok v h1 =>
      rw [c] at o
      rw [liftS_ok]
      intro ρ' τ' H' e R1 S1
      unfold finC at o
      dsimp only at o
      split at o
      · rename_i cb
        split at o
        · rename_i v' ev
          obtain ⟨e0, R2, x2⟩ := R.cut R1 e cb
          refine o ρ τ' H' x2 R2 ⟨by rw [S1.len]; simp, fun j y ej => ?_⟩
          by_cases hj : i = j
          · subst hj
            have hi : i < σ.length := by have := (List.getElem?_eq_some_iff.mp ej).1; simpa using this
            rw [List.getElem?_set_self hi] at ej
            cases ej
            obtain ⟨u, e1, q⟩ := S1.at_ i v (by rw [List.getElem?_set_self hi])
            have q2 := frz_ok R1 ev q
            rw [e0] at q2
            exact ⟨u, e1, q2⟩
          · rw [List.getElem?_set_ne hj] at ej
            obtain ⟨u, e1, q⟩ := S1.at_ j y (by rw [List.getElem?_set_ne hj]; exact ej)
            obtain ⟨w, _, qw⟩ := S.at_ j y ej
            have b := qw.isLow
            rw [R.len] at b
            have q2 := q.cut b
            rw [e0] at q2
            exact ⟨u, e1, q2⟩
        · exact o.elim
      · exact o.elim⟩⟩
end
/-! ### defs -/
/-- what a def promises, by its reading m on values -/
def OutF (K : KW) (ρ : List Addr) (H : Hp) (r : Res PV) (Q : VK) (E : XK) : Prop := match r with
  | .ok v h => ∀ ρ' H' x, Ext ρ H ρ' H' → Rep K ρ' h H' → RV K ρ' H' v x → Q x H'
  | .exc c fs h => ∀ ρ' H' d, Ext ρ H ρ' H' → Rep K ρ' h H' → XD K ρ' H' d fs → E (.ref c) (some d) H'
  | .stuck => False
def spM (K : KW) (n : Nat) (m : FN) : Sp := fun vs H Q E => vs.length = n ∧ ∃ ρ h xs, Rep K ρ h H ∧ RVs K ρ H xs vs ∧ OutF K ρ H (m xs h) Q E
structure FnA (P : Program) (w : World) (K : PySem.W.Frag) (mg : Str → Option Value) (base : Heap) (k : Nat) (f : Addr) (fd : FuncData) (ps : List Str) (m : FN) : Prop where
  ok : FnOk P w K mg base (L2.CX P w) k f fd ps (spM ⟨K, w⟩ ps.length m)
/-- a def's end: what it hands back; frozen or (keep) as it is -/
def endF (keep : Bool) (h : AH) (r : SRes) : Res PV := match r with
  | .fin (.rt v) _ h1 => if keep = true then .ok v h1 else finC h.length h h1 v
  | .fin .nx _ h1 => if keep = true then .ok .non h1 else finC h.length h h1 .non
  | .exc c fs _ h1 => .exc c fs h1
  | _ => .stuck
def startA (n : Nat) (xs : List PV) : ASt := xs.map some ++ List.replicate (n - xs.length) none
def mDef (keep : Bool) (n : Nat) (body : AS) : FN := fun xs h => endF keep h (body (startA n xs) h)
theorem start_rs {K : KW} {ρ : List Addr} {H : Hp} {xs : List PV} {vs : List V} {N : List Str} (r : RVs K ρ H xs vs) : RS K ρ H (startA N.length xs) (L2.start N vs) := by
  refine ⟨by unfold startA L2.start; simp [r.len], fun i x e => ?_⟩
  unfold startA at e
  unfold L2.start
  by_cases hi : i < xs.length
  · rw [List.getElem?_append_left (by simpa using hi), List.getElem?_map] at e
    rw [List.getElem?_append_left (by simp [r.len]; exact hi), List.getElem?_map]
    cases c : xs[i]? with
    | none => rw [c] at e; cases e
    | some y =>
      rw [c] at e; cases e
      obtain ⟨v, ev, q⟩ := r.get c
      exact ⟨v, by rw [ev]; rfl, q⟩
  · rw [List.getElem?_append_right (by simpa using hi), List.getElem?_replicate] at e
    split at e <;> cases e
theorem OutF.cut {K : KW} {ρ : List Addr} {h h1 : AH} {H : Hp} {v : PV} {Q : VK} {E : XK} (R : Rep K ρ h H) (o : OutF K ρ H (finC h.length h h1 v) Q E) : OutF K ρ H (.ok v h1) Q E := by
  intro ρ' H' x e R1 r
  unfold finC at o
  split at o
  · rename_i c
    split at o
    · rename_i v' ev
      obtain ⟨e0, R2, x2⟩ := R.cut R1 e c
      have q := frz_ok R1 ev r
      rw [e0] at q
      exact o ρ H' x x2 R2 q
    · exact o.elim
  · exact o.elim
section
variable {P : Program} {w : World} {K : PySem.W.Frag} {mg : Str → Option Value} {base : Heap}
/-- a def's context, as fn_of has it -/
abbrev Xd (P : Program) (w : World) (K : PySem.W.Frag) (mg : Str → Option Value) (base : Heap) (N : List Str) (qual : Str) (scope : Scope) (f : Addr) (cd : Value) (A : Around) (outer : List Env) (s : Shared) (H : Hp) (E : XK) : Cx := cxOf (L2.CX P w) P w K mg base N qual scope f cd A outer s H E
theorem fn_def {x qual : Str} {st : Stmt} {f : Addr} {fd : FuncData} {N ps : List Str} {k : Nat} (keep : Bool) {body : AS} (F : Fun K x qual st f fd) (S : FnScope N ps (defScope st))
    (hb : ∀ (cdv : Value) (A : Around) (outer : List Env) (s : Shared) (H : Hp) (E : XK), Room k (A.deeper (envOfC qual (defScope st) s.heap.objs.size f cdv)) → Takes (Xd P w K mg base N qual (defScope st) f cdv A outer s H E) (fun c d _ H' => E c d H') →
      PassesOwn (model P w) (Xd P w K mg base N qual (defScope st) f cdv A outer s H E).A (Xd P w K mg base N qual (defScope st) f cdv A outer s H E).env (Xd P w K mg base N qual (defScope st) f cdv A outer s H E).xe →
      JSs (Xd P w K mg base N qual (defScope st) f cdv A outer s H E) (fun c d _ H' => E c d H') (defBody st) body) : FnA P w K mg base (k + 1) f fd ps (mDef keep N.length body) := by
  refine ⟨F.okX S (fun vs H Q E h => h.1) fun cdv A outer s H vs Q E hr h => ?_⟩
  obtain ⟨hl, ρ, h, xs, R, r, o⟩ := h
  refine ⟨_, (hb cdv A outer s H E hr (takes_of rfl rfl rfl rfl) (passes_of rfl)).pss, ρ, h, startA N.length xs, R, start_rs r, ?_⟩
  unfold mDef at o
  cases c : body (startA N.length xs) h with
  | stuck => rw [c] at o; exact o.elim
  | exc cc fs σ1 h1 => rw [c] at o; exact fun ρ' τ H' d e R1 S1 xd => o ρ' H' d e R1 xd
  | fin fl σ1 h1 =>
    rw [c] at o
    cases fl with
    | bk => exact o.elim
    | ct => exact o.elim
    | rt v =>
      have o' : OutF ⟨K, w⟩ ρ H (.ok v h1) Q E := by
        unfold endF at o
        dsimp only at o
        cases keep with
        | true => exact o
        | false => exact OutF.cut R o
      exact fun ρ' x H' e R1 q => o' ρ' H' x e R1 q
    | nx =>
      have o' : OutF ⟨K, w⟩ ρ H (.ok .non h1) Q E := by
        unfold endF at o
        dsimp only at o
        cases keep with
        | true => exact o
        | false => exact OutF.cut R o
      exact fun ρ' τ' H' e R1 S1 => o' ρ' H' .non e R1 .non
end
section
variable {X : Cx} {W : WX}
def aCall (n : Nat) (m : FN) (l : AL) : AE := fun σ h => (l σ h).bind fun xs h1 => if xs.length = n then m xs h1 else .stuck
theorem OutF.of {ρ : List Addr} {H : Hp} {τ : St} {r : Res PV} {Q : VK} (o : OutE (cxKW X) W ρ τ H r Q) : OutF (cxKW X) ρ H r Q (WE W τ) := by
  cases r with
  | ok v h => exact o
  | exc c fs h => exact fun ρ' H' d e R x => o ρ' H' d e R x
  | stuck => exact o
/-- what a def's facts are told over -/
structure CxIs (X : Cx) (P : Program) (w : World) (K : PySem.W.Frag) (mg : Str → Option Value) (base : Heap) (A : Around) : Prop where
  prog : X.prog = P
  w : X.w = w
  K : X.K = K
  mg : X.mg = mg
  base : X.base = base
  A : X.A = A
/-- f(e, ..) -/
theorem je_call {P : Program} {w : World} {K : PySem.W.Frag} {mg : Str → Option Value} {base : Heap} {A : Around} {k : Nat} {f : Addr} {fd : FuncData} {ps : List Str} {m : FN} {l : AL} {x : Str} {p pos : Pos} {e : Expr} {es : List Expr} (F : FnA P w K mg base k f fd ps m) (hr : Room k A) (hm : mg x = some (.ref f)) (hk : PySem.W.keepIn K (.ref f) = true) (hb : Binds K fd ps []) (tk : Takes X W)
    (ha : JA X W (e :: es) l) (ci : CxIs X P w K mg base A := by exact ⟨rfl, rfl, rfl, rfl, rfl, rfl⟩) (hl : (e :: es).length = ps.length := by rfl) (hg : Gl X x := by rfl) (hdb : (x == ("__debug__" : Str)) = false := by decide) (he : starEach (e :: es) X.env = (false, eval e X.env) :: starEach es X.env := by rfl) (hpl : (backTo pos (starEach es X.env)).any (·.1) = false := by rfl) :
    JE X W (.Call (.Name x p) (e :: es) [] pos) (aCall ps.length m l) := by
  obtain ⟨rfl, rfl, rfl, rfl, rfl, rfl⟩ := ci
  exact ⟨PEmono (pe_callS F.ok hr hg hm hk hb (fun σ => passAt tk σ) ha.pa hdb he hpl) fun τ H Q ⟨ρ, h, σ, R, S, o⟩ => ⟨ρ, h, σ, R, S, (Out.bind (R := RVs (cxKW X)) o).mono fun vs H1 ⟨ρ1, xs, h1, e1, R1, q1, o1⟩ => by
    split at o1
    · rename_i hx
      exact ⟨by rw [q1.len]; exact hx, ρ1, h1, xs, R1, q1, OutF.of o1⟩
    · exact o1.elim⟩⟩
end
end AB
namespace AB
open PySem PySem.Spec
open PyProof.Rows hiding St
open L2
section
variable {X : Cx} {W : WX} {K : KW}
/-- any sequence walked -/
def itS (v : PV) (h : AH) : Res AI := match v with
  | .tup xs => .ok (itVals xs) h
  | v => itL v h
def aItS (m : AE) : AIt := fun σ h => (m σ h).bind itS
theorem itL_aiok {ρ : List Addr} {h h' : AH} {H : Hp} {v : PV} {x : V} {a : AI} (R : Rep K ρ h H) (r : RV K ρ H v x) (e : itL v h = .ok a h') : h' = h ∧ ∃ p xs, x = .ref p ∧ SqL K.fr H p xs ∧ AIok K ρ H a (Itl K.fr p) := by
  unfold itL at e
  split at e
  · rename_i xs c
    obtain ⟨p, vs, rfl, s, q⟩ := lst_of R r c
    split at e
    · cases e; exact ⟨rfl, p, vs, rfl, s, aiok_lst r⟩
    · rename_i hv
      cases e
      refine ⟨rfl, p, vs, rfl, s, aiok_vals r fun h => ?_⟩
      cases v with
      | lst ys => exact c
      | ro ys => exact c
      | loc n => exact absurd rfl (hv n)
      | _ => cases c
  · cases e
theorem aiok_tup {ρ0 : List Addr} {H0 : Hp} {xs : List PV} {vs : List V} {p : Addr} (f : FxT K ρ0 H0 p vs) (q : RVs K ρ0 H0 xs vs) : AIok K ρ0 H0 (itVals xs) (Itt K.fr p) := fun i ρ2 h2 H2 e2 R2 => by
  have f2 := (f.mono e2).sq
  have q2 := q.mono e2
  show match some xs[i]? with | none => True | some none => _ | some (some x) => _
  cases ci : xs[i]? with
  | none => exact ⟨vs, f2, by rw [q.len]; exact List.getElem?_eq_none_iff.mp ci⟩
  | some x =>
    obtain ⟨w, ew, qw⟩ := q2.get ci
    exact ⟨⟨vs, w, f2, ew⟩, fun u H' ⟨e1, f⟩ => by
      subst e1
      have := f vs f2
      rw [ew] at this; cases this
      exact ⟨.refl, R2, qw⟩⟩
/-- a list or a tuple, where the text does not tell which -/
theorem pi_seq {tg l : Expr} {tl : TE} (hl : PE X l tl) : PI X tg l (fun σ H R => tl σ H fun x H1 => ∃ a, x = .ref a ∧ (((∃ xs, SqL X.K H1 a xs) ∧ R (Itl X.K a) H1) ∨ ((∃ xs, SqT X.K H1 a xs) ∧ R (Itt X.K a) H1))) := by
  refine ⟨fun pins s σ H R I h => ?_⟩
  refine thn (hl.run pins s σ H _ I h) fun v s1 ⟨x, H1, I1, r1, q1⟩ => ?_
  obtain ⟨a, e, q⟩ := q1
  subst e
  cases r1
  rcases q with ⟨⟨xs, hq⟩, q⟩ | ⟨⟨xs, hq⟩, q⟩
  · obtain ⟨its, rv, p, hz⟩ := I1.list hq
    refine wpAny_pyIter_list p.isList ?_
    refine ⟨s1.heap.objs.size, [s1.heap.objs.size], _, _, H1, rfl, I1.kept (t' := s1.toks) fun b o e => Heap.get?_push_of_some _ e, turn_list a _, ⟨_, Heap.get?_push_size _ rfl, rfl, rfl⟩, fun b hb => ?_, q⟩
    have e : b = s1.heap.objs.size := by simpa using hb
    subst e
    exact I1.fpOk (Nat.le_refl _) (I1.hok.fresh (Nat.le_refl _))
  · obtain ⟨its, rv, p, hz⟩ := I1.tuple hq
    refine wpAny_pyIter_tuple (show s1.heap.IsTuple a its.toArray from p) ?_
    refine ⟨s1.heap.objs.size, [s1.heap.objs.size], _, _, H1, rfl, I1.kept (t' := s1.toks) fun b o e => Heap.get?_push_of_some _ e, turn_tuple a _, ⟨_, Heap.get?_push_size _ rfl, rfl, rfl⟩, fun b hb => ?_, q⟩
    have e : b = s1.heap.objs.size := by simpa using hb
    subst e
    exact I1.fpOk (Nat.le_refl _) (I1.hok.fresh (Nat.le_refl _))
theorem ji_seq {tg l : Expr} {m : AE} (hl : JE X W l m) : JI X W tg l (aItS m) :=
  ⟨PImono (pi_seq hl.pe) fun τ H Rk ⟨ρ, h, σ, R, S, o⟩ => ⟨ρ, h, σ, R, S, (Out.bind (R := RV (cxKW X)) o).mono fun x H1 ⟨ρ1, v, h1, e1, R1, q1, o1⟩ => by
    unfold itS at o1
    split at o1
    · obtain ⟨p, vs, rfl, f, q⟩ := q1.tup_inv
      exact ⟨p, rfl, .inr ⟨⟨vs, f.sq⟩, Out.done o1 R1 (aiok_tup f q)⟩⟩
    · cases c : itL v h1 with
      | exc _ _ _ => unfold itL at c; split at c <;> first | (split at c <;> cases c) | cases c
      | stuck => rw [c] at o1; exact o1.elim
      | ok a h2 =>
        rw [c] at o1
        obtain ⟨rfl, p, vs, rfl, s, k⟩ := itL_aiok R1 q1 c
        exact ⟨p, rfl, .inl ⟨⟨vs, s⟩, Out.done o1 R1 k⟩⟩⟩⟩
end
end AB

/-! AB8: list(enumerate(xs)) -/
namespace PySem.W
open PySem PySem.Calls PyProof.Rows PyProof.V PySem.Spec
theorem abe_len : typeLookup (.type "enumerate") "__len__" = pure none := by rw [typeLookup_type, builtinLookup_eq_fast]; kernel_rfl
theorem abe_hint : typeLookup (.type "enumerate") "__length_hint__" = pure none := by rw [typeLookup_type, builtinLookup_eq_fast]; kernel_rfl
/-- the enumerator whose last pair, at a, is out -/
abbrev EnX (h : Heap) (e it : Addr) (i : Int) (a : Addr) (f : Bool) (x : Value) : Prop :=
  h.get? e = some { cls := .type "enumerate", dict := none, data := .fields #[rawInt a, .bool f, .ref it, rawInt i, .none, x], slots := #[] }
section
variable {prog : Program} {w : World} {A : Around} {E : Value → Shared → Prop} {s : Shared}
theorem abe_next_out {e it l a : Addr} {f : Bool} {oa : Obj} {i : Nat} {items : Array Value} {x old : Value} {Q : Value → Shared → Prop}
    (he : EnX s.heap e it i a f old) (ha : s.heap.get? a = some oa) (hae : a ≠ e) (hai : a ≠ it) (hit : s.heap.IsListIter it l i) (hl : s.heap.IsList l items) (hx : items[i]? = some x) (hne : e ≠ it)
    (hQ : ∀ h', EnX h' e it ((i : Int) + 1) a true old → h'.IsListIter it l (i + 1) →
      h'.get? s.heap.objs.size = some { cls := .type "tuple", data := .seq #[.int i s.toks, x] } → h'.objs.size = s.heap.objs.size + 1 →
      (∀ b o, b ≠ e → b ≠ it → s.heap.get? b = some o → h'.get? b = some o) → Q (.ref s.heap.objs.size) { s with heap := h', toks := s.toks + 1 }) :
    wpAny (model prog w) A (Builtin.«enumerate.__next__» ⟨[.ref e], []⟩) (fun fin s' => ∃ v, fin = .done (.ret v) ∧ Q v s') E s := by
  obtain ⟨hp, g, d, tk, os⟩ := s
  show wpAny _ _ (field (.ref e) 2 >>= _) _ _ _
  refine wpAny_bind (wpAny_field he rfl (x := .ref it) rfl ?_)
  refine wpAny_bind (wpAny_nextOf_list_item hit hl hx fun h₁ hit₁ hs₁ => ?_)
  replace hs₁ : Heap.SameBut it hp h₁ := hs₁
  have he₁ : EnX h₁ e it i a f old := (hs₁.2 e hne).trans he
  show wpAny _ _ (field (.ref e) 3 >>= _) _ _ ⟨h₁, g, d, tk, os⟩
  refine wpAny_bind (wpAny_field he₁ rfl (x := rawInt i) rfl ?_)
  show wpAny _ _ (field (.ref e) 4 >>= _) _ _ ⟨h₁, g, d, tk, os⟩
  refine wpAny_bind (wpAny_field he₁ rfl (x := .none) rfl ?_)
  show wpAny _ _ (mkInt i >>= _) _ _ ⟨h₁, g, d, tk, os⟩
  refine wpAny_bind (wpAny_mkInt ?_)
  show wpAny _ _ (setField (.ref e) 3 (rawInt ((i : Int) + 1)) >>= _) _ _ ⟨h₁, g, d, tk + 1, os⟩
  refine wpAny_bind (wpAny_setField_rec he₁ (by simp) fun h₂ he₂ hs₂ => ?_)
  replace hs₂ : Heap.SameBut e h₁ h₂ := hs₂
  replace he₂ : EnX h₂ e it ((i : Int) + 1) a f old := he₂
  show wpAny _ _ (setField (.ref e) 4 .none >>= _) _ _ ⟨h₂, g, d, tk + 1, os⟩
  refine wpAny_bind (wpAny_setField_rec he₂ (by simp) fun h₃ he₃ hs₃ => ?_)
  replace hs₃ : Heap.SameBut e h₂ h₃ := hs₃
  replace he₃ : EnX h₃ e it ((i : Int) + 1) a f old := he₃
  show wpAny _ _ (newTuple [.int i tk, x] >>= _) _ _ ⟨h₃, g, d, tk + 1, os⟩
  refine wpAny_bind (wpAny_newTuple ?_)
  have he₄ : EnX (h₃.push { cls := .type "tuple", data := .seq #[.int i tk, x] }) e it ((i : Int) + 1) a f old := Heap.get?_push_of_some _ he₃
  generalize hh₄ : h₃.push { cls := .type "tuple", data := .seq #[.int i tk, x] } = h₄ at he₄
  have hsz : h₃.objs.size = hp.objs.size := by rw [hs₃.1, hs₂.1, hs₁.1]
  have hel : e < hp.objs.size := Heap.lt_size he
  have ht₄ : h₄.get? hp.objs.size = some { cls := .type "tuple", data := .seq #[.int i tk, x] } := by rw [← hh₄, ← hsz]; exact Heap.get?_push_size _ rfl
  have hz₄ : h₄.objs.size = hp.objs.size + 1 := by rw [← hh₄, Heap.size_push, hsz]
  have hk₄ : ∀ b o, b ≠ e → b ≠ it → hp.get? b = some o → h₄.get? b = some o := fun b o hbe hbi hb => by
    rw [← hh₄]; exact Heap.get?_push_of_some _ (hs₃.extBut b o hbe (hs₂.extBut b o hbe (hs₁.extBut b o hbi hb)))
  have hit₄ : h₄.IsListIter it l (i + 1) := by
    rw [← hh₄]; obtain ⟨o, ho, r⟩ := (hit₁.extBut hs₂.extBut (Ne.symm hne)).extBut hs₃.extBut (Ne.symm hne); exact ⟨o, Heap.get?_push_of_some _ ho, r⟩
  show wpAny _ _ (Builtin.SmallTypes.ownedTupleIsFree (.ref e) >>= _) _ _ ⟨h₄, g, d, tk + 1, os⟩
  rw [hsz]
  clear hh₄ he₃ hs₃ he₂ hs₂ he₁ hs₁ hit₁ hsz h₃ h₂ h₁
  have ha₄ : h₄.get? a = some oa := hk₄ a oa hae hai ha
  refine wpAny_bind ?_
  unfold Builtin.SmallTypes.ownedTupleIsFree
  refine wpAny_bind (wpAny_field he₄ rfl (x := rawInt a) rfl ?_)
  show wpAny _ _ (loadIfAlive ((a : Int).toNat) >>= _) _ _ _
  rw [Int.toNat_natCast]
  refine wpAny_bind (kdx_alive ha₄ ?_)
  simp only [Option.isNone_some, Bool.false_eq_true, if_false]
  refine wpAny_bind (wpAny_field he₄ rfl (x := .bool f) rfl ?_)
  cases f with
  | true =>
    rw [if_neg (show ¬ ((Value.bool true != Value.bool true) = true) from Bool.false_ne_true)]
    refine wpAny_pure ?_
    simp only [Bool.false_eq_true, if_false]
    exact wpAny_pure ⟨_, rfl, hQ h₄ he₄ hit₄ ht₄ hz₄ hk₄⟩
  | false =>
    rw [if_pos (show (Value.bool false != Value.bool true) = true from rfl)]
    refine wpAny_bind (wpAny_setField_rec he₄ (by simp) fun h₅ he₅ hs₅ => ?_)
    replace hs₅ : Heap.SameBut e h₄ h₅ := hs₅
    replace he₅ : EnX h₅ e it ((i : Int) + 1) a true old := he₅
    refine wpAny_pure ?_
    simp only [Bool.false_eq_true, if_false]
    exact wpAny_pure ⟨_, rfl, hQ h₅ he₅ (hit₄.extBut hs₅.extBut (Ne.symm hne)) (hs₅.extBut _ _ (Nat.ne_of_gt hel) ht₄) (by rw [hs₅.1, hz₄]) fun b o hbe hbi hb => hs₅.extBut b o hbe (hk₄ b o hbe hbi hb)⟩
theorem abe_pyNext_out {e it l a : Addr} {f : Bool} {oa : Obj} {i : Nat} {items : Array Value} {x old : Value} {Q : Option Value → Shared → Prop}
    (he : EnX s.heap e it i a f old) (ha : s.heap.get? a = some oa) (hae : a ≠ e) (hai : a ≠ it) (hit : s.heap.IsListIter it l i) (hl : s.heap.IsList l items) (hx : items[i]? = some x) (hne : e ≠ it)
    (hQ : ∀ h', EnX h' e it ((i : Int) + 1) a true old → h'.IsListIter it l (i + 1) →
      h'.get? s.heap.objs.size = some { cls := .type "tuple", data := .seq #[.int i s.toks, x] } → h'.objs.size = s.heap.objs.size + 1 →
      (∀ b o, b ≠ e → b ≠ it → s.heap.get? b = some o → h'.get? b = some o) → Q (some (.ref s.heap.objs.size)) { s with heap := h', toks := s.toks + 1 }) :
    wpAny (model prog w) A (pyNext (.ref e)) Q E s := by
  have hT : s.TypeIs (.ref e) "enumerate" := ⟨_, he, rfl⟩
  unfold pyNext
  exact wpAny_bind (wpAny_attempt (wpAny_callSpecial?_slot (name := Str.ofString "__next__") hT F.slot_enumerate_next
    (wpAny_call_entry F.slot_enumerate_next hT F.entry_enumerate_next
      (abe_next_out he ha hae hai hit hl hx hne fun h' a b c d k => wpAny_pure (hQ h' a b c d k)) (F.args_enumerate_next_1 _))))
theorem abe_pyNext_end {e it l a : Addr} {f : Bool} {i : Nat} {items : Array Value} {old : Value} {Q : Option Value → Shared → Prop} (hh : A.handled = none)
    (he : EnX s.heap e it i a f old) (hit : s.heap.IsListIter it l i) (hl : s.heap.IsList l items) (hx : items[i]? = none)
    (hQ : ∀ h', Heap.ExtBut it s.heap h' → Q none { s with heap := h' }) : wpAny (model prog w) A (pyNext (.ref e)) Q E s := by
  have hT : s.TypeIs (.ref e) "enumerate" := ⟨_, he, rfl⟩
  unfold pyNext
  refine wpAny_bind (wpAny_attempt (wpAny_callSpecial?_slot (name := Str.ofString "__next__") hT F.slot_enumerate_next
    (wpAny_call_entry F.slot_enumerate_next hT F.entry_enumerate_next ?_ (F.args_enumerate_next_1 _))))
  show wpAny _ _ (field (.ref e) 2 >>= _) _ _ s
  refine wpAny_bind (wpAny_field he rfl (x := .ref it) rfl ?_)
  refine wpAny_bind (wpAny_nextOf_list_end hh hit hl hx fun h' x he' hx' => ?_)
  obtain ⟨o, ho, hc⟩ := hx'
  refine wpAny_bind (wpAny_isInstance (T := "StopIteration") (b := true) ⟨o, ho, hc⟩ isSubtype_stop ?_)
  exact wpAny_pure (hQ _ he')
/-- between the turns of list(enumerate(..)): S the list that is made -/
def EnS (h : Heap) (e it : Addr) (i : Nat) (S : Addr) : Prop :=
  (∃ old, IsEnum h e it ((i : Nat) : Int) old) ∨ ∃ a f x oa, EnX h e it ((i : Nat) : Int) a f x ∧ h.get? a = some oa ∧ a ≠ e ∧ a ≠ it ∧ a ≠ S
theorem EnS.keep {h h' : Heap} {e it S : Addr} {i : Nat} (st : EnS h e it i S) (k : ∀ b o, b ≠ S → h.get? b = some o → h'.get? b = some o) (heS : e ≠ S) : EnS h' e it i S := by
  rcases st with ⟨old, q⟩ | ⟨a, f, x, oa, q, ha, h1, h2, h3⟩
  · exact .inl ⟨old, k e _ heS q⟩
  · exact .inr ⟨a, f, x, oa, k e _ heS q, k a _ h3 ha, h1, h2, h3⟩
theorem abe_item {e it l S : Addr} {i : Nat} {items : Array Value} {x : Value} {Q : Option Value → Shared → Prop} (hst : EnS s.heap e it i S) (hS : S < s.heap.objs.size)
    (hit : s.heap.IsListIter it l i) (hl : s.heap.IsList l items) (hx : items[i]? = some x) (hne : e ≠ it)
    (hQ : ∀ h', EnS h' e it (i + 1) S → h'.IsListIter it l (i + 1) → h'.get? s.heap.objs.size = some { cls := .type "tuple", data := .seq #[.int i s.toks, x] } → h'.objs.size = s.heap.objs.size + 1 →
      (∀ b o, b ≠ e → b ≠ it → s.heap.get? b = some o → h'.get? b = some o) → Q (some (.ref s.heap.objs.size)) { s with heap := h', toks := s.toks + 1 }) :
    wpAny (model prog w) A (pyNext (.ref e)) Q E s := by
  have e1 : ((i + 1 : Nat) : Int) = (i : Int) + 1 := by omega
  have hil : it < s.heap.objs.size := by obtain ⟨o, ho, _⟩ := hit; exact Heap.lt_size ho
  rcases hst with ⟨old, he⟩ | ⟨a, f, y, oa, he, ha, hae, hai, haS⟩
  · have hel : e < s.heap.objs.size := Heap.lt_size he
    refine wpAny_pyNext_enum_item he hit hl hx hne fun h' ho hit' hT hsz hk => hQ h' (.inr ⟨s.heap.objs.size, false, x, _, ?_, hT, Nat.ne_of_gt hel, Nat.ne_of_gt hil, Nat.ne_of_gt hS⟩) hit' hT hsz hk
    rw [e1]; exact ho
  · refine abe_pyNext_out he ha hae hai hit hl hx hne fun h' ho hit' hT hsz hk => hQ h' (.inr ⟨a, true, y, oa, ?_, hk a oa hae hai ha, hae, hai, haS⟩) hit' hT hsz hk
    rw [e1]; exact ho
theorem abe_done {e it l S : Addr} {i : Nat} {items : Array Value} {Q : Option Value → Shared → Prop} (hh : A.handled = none) (hst : EnS s.heap e it i S)
    (hit : s.heap.IsListIter it l i) (hl : s.heap.IsList l items) (hx : items[i]? = none)
    (hQ : ∀ h', Heap.ExtBut it s.heap h' → Q none { s with heap := h' }) : wpAny (model prog w) A (pyNext (.ref e)) Q E s := by
  rcases hst with ⟨old, he⟩ | ⟨a, f, y, oa, he, ha, hae, hai, haS⟩
  · exact wpAny_pyNext_enum_end hh he hit hl hx hQ
  · exact abe_pyNext_end hh he hit hl hx hQ
/-- the tuples made so far: as holds the pairs of the first items -/
structure EnG (items : Array Value) (lo : Addr) (h : Heap) (as : List Addr) : Prop where
  rise : as.Pairwise (· < ·)
  above : ∀ a ∈ as, lo < a
  pairs : ∀ (j : Nat) (a : Addr), as[j]? = some a → ∃ (hj : j < items.size) (t : Tok), h.get? a = some { cls := .type "tuple", data := .seq #[.int j t, items[j]] }
theorem EnG.there {items : Array Value} {lo : Addr} {h : Heap} {as : List Addr} (g : EnG items lo h as) {a : Addr} (ha : a ∈ as) : a < h.objs.size := by
  obtain ⟨j, hj⟩ := List.mem_iff_getElem?.mp ha
  obtain ⟨_, t, e⟩ := g.pairs j a hj
  exact Heap.lt_size e
end
section
variable {prog : Program} {w : World} {A : Around} {s : Shared} {R : Result → Shared → Prop} {items : Array Value}
theorem abe_loop {S I it l : Addr} (hh : A.handled = none) (hIS : I < S) (hlS : l ≠ S) (hlI : l ≠ I) (hlt' : l ≠ it) (hitS : it ≠ S) (hIt : I ≠ it) (hitI : it < I) (hn : items.size ≤ sizeLine) (res : Value) {h₁ : Heap}
    (hR : ∀ h' tk acc c as, (∀ b o, b ≠ S → b ≠ I → b ≠ it → h₁.get? b = some o → h'.get? b = some o) → h'.get? S = some { cls := .type "list", dict := none, data := .seq acc c, slots := #[] } → as.length = items.size → EnG items S h' as →
      acc.toList = as.map Value.ref → R (.ok (.ret res)) { s with heap := h', toks := tk }) :
    ∀ (k i : Nat) (h : Heap) (tk c : Nat) (acc : Array Value) (as : List Addr), items.size - i = k → i ≤ items.size → EnS h I it i S → h.IsListIter it l i → h.IsList l items → (∀ b o, b ≠ S → b ≠ I → b ≠ it → h₁.get? b = some o → h.get? b = some o) →
      h.get? S = some { cls := .type "list", dict := none, data := .seq acc c, slots := #[] } → acc.toList = as.map Value.ref → as.length = i → EnG items S h as → S < h.objs.size →
      codeAny (model prog w) A (.builtin "list.extend.loop" ⟨[.ref S, .ref I, res], []⟩) R { s with heap := h, toks := tk } := by
  have hne : S ≠ I := Nat.ne_of_gt hIS
  have hitS' : it < S := Nat.lt_trans hitI hIS
  intro k
  induction k with
  | zero =>
    intro i h tk c acc as hk hi hst hit hl hkeep hS hacc hal hG hIs
    have hin : i = items.size := by omega
    refine codeAny_builtin PySem.F.entry_extend_loop ?_
    rw [Around.under_plainId PySem.F.plain_extend_loop _]
    show wpAny _ A.in1 (pyNext (.ref I) >>= _) _ _ _
    refine wpAny_bind (abe_done (s := { s with heap := h, toks := tk }) (A := A.in1) hh hst hit hl (Array.getElem?_eq_none (by omega)) fun h' he => ?_)
    refine wpAny_pure (hR h' tk acc c as (fun b o h1 h2 h3 e => he b o h3 (hkeep b o h1 h2 h3 e)) (he S _ (Ne.symm hitS) hS) (by omega) ⟨hG.rise, hG.above, fun j a hj => ?_⟩ hacc)
    obtain ⟨hj', t, e3⟩ := hG.pairs j a hj
    exact ⟨hj', t, he a _ (Nat.ne_of_gt (Nat.lt_trans hitS' (hG.above a (List.mem_of_getElem? hj)))) e3⟩
  | succ k ih =>
    intro i h tk c acc as hk hi hst hit hl hkeep hS hacc hal hG hIs
    have hlt : i < items.size := by omega
    have hsz : acc.size = i := by rw [← Array.length_toList, hacc, List.length_map, hal]
    refine codeAny_builtin PySem.F.entry_extend_loop ?_
    rw [Around.under_plainId PySem.F.plain_extend_loop _]
    show wpAny _ A.in1 (pyNext (.ref I) >>= _) _ _ _
    refine wpAny_bind (abe_item (s := { s with heap := h, toks := tk }) (S := S) (x := items[i]) hst (Heap.lt_size hS) hit hl (by simp [hlt]) hIt fun h' hst' hit' ht hz hkp => ?_)
    dsimp only at ht hz hkp ⊢
    have hS' := hkp S _ hne (Ne.symm hitS) hS
    have up : ∀ b o, b ≠ S → h'.get? b = some o → (h'.update S (Obj.mapSeq (·.push (Value.ref h.objs.size)))).get? b = some o := fun b o hb e => (Heap.get?_update_other _ _ (Ne.symm hb)).trans e
    have hSl : S < h.objs.size := Heap.lt_size hS
    show wpAny _ A.in1 (updateSeq S (·.push (Value.ref h.objs.size)) >>= _) _ _ _
    refine wpAny_bind ?_
    refine wpAny_updateSeq hS' rfl (wpAny_pure ⟨plainId_quiet PySem.F.plain_extend_loop _, ih (i + 1) _ (tk + 1) _ (acc.push (Value.ref h.objs.size)) (as ++ [h.objs.size]) (by omega) hlt (hst'.keep up (Ne.symm hne)) ?_ ?_
      (fun b o h1 h2 h3 e => up b o h1 (hkp b o h2 h3 (hkeep b o h1 h2 h3 e))) (Heap.get?_update_self _ hS' rfl) (by rw [Array.toList_push, hacc, List.map_append]; rfl) (by rw [List.length_append, hal]; rfl) ⟨?_, ?_, ?_⟩ ?_⟩) (by rw [hsz]; omega) (by show (acc.push (Value.ref h.objs.size)).size ≤ sizeLine + 1; rw [Array.size_push, hsz]; omega)
    · obtain ⟨o, ho, r⟩ := hit'; exact ⟨o, up it o hitS ho, r⟩
    · obtain ⟨o, ho, r⟩ := hl; exact ⟨o, up l o hlS (hkp l o hlI hlt' ho), r⟩
    · refine List.pairwise_append.mpr ⟨hG.rise, List.pairwise_singleton _ _, fun a ha b hb => ?_⟩
      rw [List.mem_singleton.mp hb]
      exact hG.there ha
    · intro a ha
      rcases List.mem_append.mp ha with ha | ha
      · exact hG.above a ha
      · rw [List.mem_singleton.mp ha]; exact hIs
    · intro j b hj
      rcases Nat.lt_trichotomy j as.length with h1 | h1 | h1
      · rw [List.getElem?_append_left h1] at hj
        obtain ⟨hj', t, e3⟩ := hG.pairs j b hj
        have hb := hG.above b (List.mem_of_getElem? hj)
        exact ⟨hj', t, up b _ (Nat.ne_of_gt hb) (hkp b _ (Nat.ne_of_gt (Nat.lt_trans hIS hb)) (Nat.ne_of_gt (Nat.lt_trans hitS' hb)) e3)⟩
      · subst h1
        have hb : h.objs.size = b := by simpa using hj
        subst hb
        exact ⟨by omega, tk, by subst hal; exact up _ _ (Nat.ne_of_gt hSl) ht⟩
      · have hnone : (as ++ [h.objs.size])[j]? = none := List.getElem?_eq_none (by rw [List.length_append, List.length_singleton]; omega)
        rw [hnone] at hj; cases hj
    · have e : (h'.update S (Obj.mapSeq (·.push (Value.ref h.objs.size)))).get? h.objs.size = _ := up _ _ (Nat.ne_of_gt hSl) ht
      exact Nat.lt_trans hIs (Heap.lt_size e)
end
section
variable {prog : Program} {w : World} {A : Around} {E : Value → Shared → Prop} {s : Shared} {r it l : Addr} {items : Array Value}
theorem abe_call {Q : Value → Shared → Prop} (hh : A.handled = none) (he : IsEnum s.heap r it 0 .none) (hit : s.heap.IsListIter it l 0) (hl : s.heap.IsList l items) (hir : it < r) (hrit : l ≠ it) (hlr : l ≠ r) (hn : items.size ≤ sizeLine)
    (hQ : ∀ h' tk acc c as, (∀ b o, b ≠ r → b ≠ it → s.heap.get? b = some o → h'.get? b = some o) → h'.get? s.heap.objs.size = some { cls := .type "list", dict := none, data := .seq acc c, slots := #[] } → as.length = items.size → EnG items s.heap.objs.size h' as →
      acc.toList = as.map Value.ref → Q (.ref s.heap.objs.size) { s with heap := h', toks := tk }) :
    wpAny (model prog w) A (call (.type "list") [.ref r]) Q E s := by
  refine callType_codes (Q₁ := fun obj s₁ => obj = .ref s.heap.objs.size ∧ s₁ = { s with heap := s.heap.push { cls := .type "list", data := .seq #[] } }) PySem.F.called_list (PySem.F.typeCall_list_1 _) PySem.F.entry_list_init
    (code_list_new _ ⟨rfl, rfl⟩) fun obj s₁ h₁ => ?_
  obtain ⟨rfl, rfl⟩ := h₁
  have hS : (s.heap.push { cls := .type "list", data := .seq #[] }).get? s.heap.objs.size = some { cls := .type "list", data := .seq #[] } := Heap.get?_push_size _ rfl
  have hr : r < s.heap.objs.size := Heap.lt_size he
  have hll : l < s.heap.objs.size := let ⟨_, ho, _⟩ := hl; Heap.lt_size ho
  have hSr : s.heap.objs.size ≠ r := Nat.ne_of_gt hr
  refine ⟨⟨_, hS, rfl⟩, PySem.F.args_list_init_2 _ _, ?_⟩
  have he₁ : IsEnum (s.heap.push { cls := .type "list", data := .seq #[] }) r it 0 .none := Heap.get?_push_of_some _ he
  have hit₁ : (s.heap.push { cls := .type "list", data := .seq #[] }).IsListIter it l 0 := by obtain ⟨o, ho, q⟩ := hit; exact ⟨o, Heap.get?_push_of_some _ ho, q⟩
  have hl₁ : (s.heap.push { cls := .type "list", data := .seq #[] }).IsList l items := by obtain ⟨o, ho, q⟩ := hl; exact ⟨o, Heap.get?_push_of_some _ ho, q⟩
  show wpAny _ _ (do let old ← Builtin.List.listItems (.ref s.heap.objs.size); Builtin.List.listUpdate (.ref s.heap.objs.size) (fun _ => #[]); letGo old.toList.reverse; Builtin.List.listExtendWith (.ref s.heap.objs.size) (.ref r) .none) _ _ _
  refine wpAny_bind ?_
  unfold Builtin.List.listItems
  refine wpAny_bind (wpAny_seqItems hS rfl (wpAny_pure ?_))
  show wpAny _ _ (updateSeq s.heap.objs.size (fun _ => #[]) >>= fun _ => letGo (#[] : Array Value).toList.reverse >>= fun _ => Builtin.List.listExtendWith (.ref s.heap.objs.size) (.ref r) .none) _ _ _
  refine wpAny_bind (wpAny_updateSeq hS rfl ?_)
  have hS₂ := Heap.get?_update_self (Obj.mapSeq (fun _ => (#[] : Array Value))) hS rfl
  generalize hh0 : s.heap.push { cls := .type "list", data := .seq #[] } = h0 at hS he₁ hit₁ hl₁ hS₂ ⊢
  have k0 : ∀ b o, s.heap.get? b = some o → h0.get? b = some o := fun b o e => by rw [← hh0]; exact Heap.get?_push_of_some _ e
  have oth : ∀ b o, b ≠ s.heap.objs.size → h0.get? b = some o → (h0.update s.heap.objs.size (Obj.mapSeq (fun _ => (#[] : Array Value)))).get? b = some o :=
    fun b o hb e => (Heap.get?_update_other _ _ (Ne.symm hb)).trans e
  refine wpAny_bind (wpAny_letGo ?_)
  unfold Builtin.List.listExtendWith
  have hT : Shared.TypeIs { s with heap := h0.update s.heap.objs.size (Obj.mapSeq (fun _ => (#[] : Array Value))) } (.ref r) "enumerate" := ⟨_, oth r _ hSr.symm he₁, rfl⟩
  refine wpAny_bind (wpAny_typeOf (T := "enumerate") hT ?_)
  have h1 : Builtin.List.listSameRef (.ref s.heap.objs.size) (.ref r) = false := by simp [Builtin.List.listSameRef, hSr]
  have h2 : (Value.type "enumerate" == Value.type "list") = false := by decide
  have h3 : (Value.type "enumerate" == Value.type "tuple") = false := by decide
  simp only [h1, h2, h3, Bool.or_false, Bool.false_eq_true, if_false]
  have he₂ : IsEnum (h0.update s.heap.objs.size (Obj.mapSeq (fun _ => (#[] : Array Value)))) r it 0 .none := oth r _ hSr.symm he₁
  refine wpAny_bind (wpAny_pyIter_enum he₂ ?_)
  refine wpAny_bind (wpAny_holding ?_)
  unfold Builtin.List.listLengthHint
  refine wpAny_bind (wpAny_specialOf hT abe_len ?_)
  show wpAny _ _ (specialOf (Value.ref r) (Str.ofString "__length_hint__") >>= _) _ _ _
  refine wpAny_bind (wpAny_specialOf hT abe_hint ?_)
  refine wpAny_pure ?_
  show wpAny _ _ (rule "list.extend.makes-room" >>= fun _ => Builtin.List.listTouch (.ref s.heap.objs.size) >>= fun _ =>
    again (.builtin "list.extend.loop" ⟨[.ref s.heap.objs.size, .ref r, .none], []⟩)) _ _ _
  refine wpAny_bind (wpAny_rule ?_)
  refine wpAny_bind ?_
  show wpAny _ _ (updateSeq s.heap.objs.size (·.push .none) >>= fun _ => updateSeq s.heap.objs.size (·.pop)) _ _ _
  refine wpAny_bind (wpAny_updateSeq hS₂ rfl ?_)
  have hS₃ := Heap.get?_update_self (Obj.mapSeq (·.push Value.none)) hS₂ rfl
  refine wpAny_updateSeq (hz := by seq_fits) hS₃ rfl ?_
  have hS₄ := Heap.get?_update_self (Obj.mapSeq (·.pop)) hS₃ rfl
  have oth4 : ∀ b o, b ≠ s.heap.objs.size → h0.get? b = some o → (((h0.update s.heap.objs.size (Obj.mapSeq (fun _ => (#[] : Array Value)))).update s.heap.objs.size (Obj.mapSeq (·.push Value.none))).update s.heap.objs.size (Obj.mapSeq (·.pop))).get? b = some o :=
    fun b o hb e => (Heap.get?_update_other _ _ (Ne.symm hb)).trans ((Heap.get?_update_other _ _ (Ne.symm hb)).trans (oth b o hb e))
  have hSl : s.heap.objs.size < h0.objs.size := Heap.lt_size hS
  refine wpAny_pure ⟨plainId_quiet PySem.F.plain_extend_loop _, ?_⟩
  refine abe_loop (A := A.in1) (s := s) (S := s.heap.objs.size) (I := r) (it := it) (l := l) (items := items) (h₁ := h0) hh hr (Nat.ne_of_lt hll) hlr hrit (Nat.ne_of_lt (Nat.lt_trans hir hr)) (Nat.ne_of_gt hir) hir hn .none (fun h' tk acc c as hk hS' hlen hG hacc => ?_) items.size 0 _ s.toks _ #[] [] (Nat.sub_zero _) (Nat.zero_le _)
    (.inl ⟨.none, oth4 r _ hSr.symm he₁⟩) (by obtain ⟨o, ho, q⟩ := hit₁; exact ⟨o, oth4 it o (Nat.ne_of_lt (Nat.lt_trans hir hr)) ho, q⟩) (by obtain ⟨o, ho, q⟩ := hl₁; exact ⟨o, oth4 l o (Nat.ne_of_lt hll) ho, q⟩)
    (fun b o h1 _ _ e => oth4 b o h1 e) hS₄ rfl rfl ⟨List.Pairwise.nil, (fun _ ha => nomatch ha), (fun j a hj => by simp at hj)⟩ ?_
  · exact ⟨rfl, hQ h' tk acc c as (fun b o h1 h2 e => hk b o (Nat.ne_of_lt (Heap.lt_size e)) h1 h2 (k0 b o e)) hS' hlen hG hacc⟩
  · exact Heap.lt_size hS₄
end
end PySem.W
namespace AB
open PySem PySem.Spec
open PyProof.Rows hiding St
open L2
/-- the pairs of enumerate, by number -/
def enK (n : Nat) : List V → List (Key × V)
  | [] => []
  | x :: xs => (Sum.inl (n : Int), x) :: enK (n + 1) xs
theorem enK_len : ∀ (n : Nat) (xs : List V), (enK n xs).length = xs.length
  | _, [] => rfl
  | n, x :: xs => by rw [enK, List.length_cons, List.length_cons, enK_len]
theorem enK_get : ∀ (n : Nat) (xs : List V) (j : Nat) (q : Key × V), (enK n xs)[j]? = some q → ∃ x, xs[j]? = some x ∧ q = (Sum.inl ((n + j : Nat) : Int), x)
  | _, [], _, _, h => by simp [enK] at h
  | n, x :: xs, 0, q, h => by simp [enK] at h; exact ⟨x, rfl, h.symm⟩
  | n, x :: xs, j + 1, q, h => by
    obtain ⟨y, e1, e2⟩ := enK_get (n + 1) xs j q (by simpa [enK] using h)
    exact ⟨y, by simpa using e1, by rw [e2]; congr 2; omega⟩
def tLstEn (K : PySem.W.Frag) (te : TE) : TE := fun σ H Q => te σ H fun x H1 => ∃ (a : Addr) (xs : List V), x = .ref a ∧ SqL K H1 a xs ∧
  ∀ (H' : Hp) (p : Addr) (ts : List Addr), (∀ b o, H1 b = some o → H' b = some o) → H1 p = none → (∀ t ∈ ts, H1 t = none) → p ∉ ts → ts.Nodup → H' p = some (.lst (ts.map V.ref)) → ts.length = xs.length →
    (∀ (j : Nat) (t : Addr), ts[j]? = some t → ∃ x, xs[j]? = some x ∧ H' t = some (.tup [.int (j : Nat), x])) → Q (.ref p) H'
section
variable {X : Cx} {W : WX} {K : KW} {e : Expr} {te : TE} {p p2 pos pos2 : Pos}
theorem en_laid {pins : List (Addr × Obj)} {σ : L2.St} {H : Hp} {s s' : Shared} {xs : List V} {its : List Value} {acc : Array Value} {c : Nat} {as : List Addr} {S : Addr} (I : Inv X pins σ H s) (hos : s'.os = s.os) (hg : AllBare s'.gens) (hz : xs.length ≤ sizeLine) (rv : Vals xs its) (hSs : s.heap.objs.size ≤ S)
    (hk : ∀ b o, s.heap.get? b = some o → s'.heap.get? b = some o) (hS : s'.heap.get? S = some { cls := .type "list", dict := none, data := .seq acc c, slots := #[] }) (hl : as.length = its.length) (hG : PySem.W.EnG its.toArray S s'.heap as) (hacc : acc.toList = as.map Value.ref) :
    ∃ H' : Hp, (∀ b o, H b = some o → H' b = some o) ∧ H S = none ∧ (∀ t ∈ as, H t = none) ∧ S ∉ as ∧ as.Nodup ∧ H' S = some (.lst (as.map V.ref)) ∧ as.length = xs.length ∧
      (∀ (j : Nat) (t : Addr), as[j]? = some t → ∃ x, xs[j]? = some x ∧ H' t = some (.tup [.int (j : Nat), x])) ∧ Inv X pins σ H' s' := by
  have lk : xs.length = its.length := rv.length
  have hSn : S ∉ as := fun z => Nat.lt_irrefl _ (hG.above _ z)
  have nd : as.Nodup := List.Pairwise.imp (fun {a b} (h : a < b) => Nat.ne_of_lt h) hG.rise
  have new : ∀ t ∈ as, H t = none := fun t ht => I.hok.fresh (Nat.le_of_lt (Nat.lt_of_le_of_lt hSs (hG.above t ht)))
  have newS : H S = none := I.hok.fresh hSs
  have atP := LiI.putT_at as (enK 0 xs) (upd H S (.lst (as.map V.ref))) (by rw [enK_len]; omega) nd
  have off : ∀ b, b ∉ as → b ≠ S → LiI.putT (upd H S (.lst (as.map V.ref))) as (enK 0 xs) b = H b := fun b h1 h2 => by rw [LiI.putT_off as _ _ h1, upd_ne h2]
  have low : ∀ b o, s.heap.get? b = some o → b ∉ as ∧ b ≠ S := fun b o e => ⟨fun z => absurd (Heap.lt_size e) (Nat.not_lt.mpr (Nat.le_trans hSs (Nat.le_of_lt (hG.above b z)))), Nat.ne_of_lt (Nat.lt_of_lt_of_le (Heap.lt_size e) hSs)⟩
  have kp : ∀ b u, H b = some u → (LiI.putT (upd H S (.lst (as.map V.ref))) as (enK 0 xs)) b = some u := fun b u e => by
    rw [off b (fun z => by rw [new b z] at e; cases e) (fun z => by rw [z, newS] at e; cases e)]
    exact e
  have eS : LiI.putT (upd H S (.lst (as.map V.ref))) as (enK 0 xs) S = some (.lst (as.map V.ref)) := by rw [LiI.putT_off as _ _ hSn, upd_same]
  refine ⟨_, kp, newS, new, hSn, nd, eS, by omega, fun j t hj => ?_, ?_⟩
  · obtain ⟨q, e1, e2⟩ := LiI.paired_get atP hj
    obtain ⟨x, e3, e4⟩ := enK_get 0 xs j q e1
    subst e4
    exact ⟨x, e3, by rw [e2]; simp [kV]⟩
  refine I.call' (ch := []) hos ⟨fun b o q _ _ _ => hk b o q, fun b o q _ _ _ => ⟨o.slots, hk b o q⟩, fun b o q n _ => ?_, fun b o q _ => ⟨o, hk b o q⟩, fun b xs q => kp b _ q, fun b o u q => kp b _ q, fun b ps q => ⟨#[], by rw [kp b _ q]; simp⟩⟩ (fun b u q => ?_) hg fun b z => by simp at z
  · obtain ⟨z1, z2⟩ := low b o q
    rw [off b z1 z2]
    exact n
  · by_cases hb : b ∈ as
    · obtain ⟨j, pk, e1, e2, e3⟩ := LiI.paired_ix atP hb
      rw [e3] at q
      cases q
      obtain ⟨hj, t, f3⟩ := hG.pairs j b e1
      obtain ⟨x, g1, g2⟩ := enK_get 0 xs j pk e2
      subst g2
      obtain ⟨u, g3, g4⟩ := rv.get g1
      have eu : its.toArray[j] = u := by
        have : its[j]? = some its.toArray[j] := by simp at hj ⊢
        rw [g3] at this
        exact (Option.some.inj this).symm
      rw [eu] at f3
      exact ⟨by show 2 ≤ sizeLine; decide, [.int j t, u], .cons (by simp only [kV, Nat.zero_add]; exact ⟨t, rfl⟩) (.cons g4 .nil), ⟨_, f3, rfl, _, rfl⟩⟩
    · by_cases hb2 : b = S
      · rw [hb2] at q ⊢
        rw [eS] at q
        cases q
        refine ⟨by rw [List.length_map]; omega, acc.toList, c, by rw [hacc]; exact LiI.vals_refs as, ?_⟩
        rw [Array.toArray_toList]
        exact hS
      · rw [off b hb hb2] at q
        exact (I.hok b u q).stay (fun d v _ y => hk d v y) (fun d y => kp d _ y) fun d xs y => kp d _ y
theorem pe_lstEn (hc : X.calm = true) (he : PE X e te) (hg : Gl X "list") (hm : X.mg "list" = none) (hg2 : Gl X "enumerate") (hm2 : X.mg "enumerate" = none)
    (na : starEach [.Call (.Name "enumerate" p2) [e] [] pos2] X.env = (false, eval (.Call (.Name "enumerate" p2) [e] [] pos2) X.env) :: starEach [] X.env := by rfl) (na2 : starEach [e] X.env = (false, eval e X.env) :: starEach [] X.env := by rfl) :
    PE X (.Call (.Name "list" p) [.Call (.Name "enumerate" p2) [e] [] pos2] [] pos) (tLstEn X.K te) := by
  refine ⟨fun pins s σ H Q I h => ?_⟩
  refine Call_ (ld_blt I hg hm boot_list (PyProof.Rows.callWith_type1 (PyProof.Rows.args_cons ?_ na) na))
  refine Call_ (ld_blt I hg2 hm2 boot_enumerate ?_)
  refine PyProof.Rows.callWith_type1 (PyProof.Rows.args_cons (thn (he.run pins s σ H _ I h) fun v s1 ⟨x, H1, I1, r1, q1⟩ => PyProof.Rows.args_nil ?_) na2) na2 rfl
  obtain ⟨a, xs, rfl, hq, q⟩ := q1
  cases r1
  obtain ⟨its, rv, pl, hz⟩ := I1.list hq
  refine call_enumerate_list pl.isList fun h1 hE hit hsz hk1 => ?_
  refine PyProof.Rows.args_nil ?_
  obtain ⟨oL, hoL, hL1, hL2⟩ := pl.isList
  have hal : a < s1.heap.objs.size := Heap.lt_size hoL
  refine PySem.W.abe_call (items := its.toArray) (I1.ok.hd hc) hE hit ⟨oL, hk1 _ _ hoL, hL1, hL2⟩ (Nat.lt_succ_self _) (Nat.ne_of_lt hal) (Nat.ne_of_lt (Nat.lt_succ_of_lt hal)) (by simp only [List.size_toArray]; rw [← rv.length]; exact hz) fun h' tk acc c as hk hS hl hG hacc => ?_
  have hkk : ∀ b o, s1.heap.get? b = some o → h'.get? b = some o := fun b o e => hk b o (Nat.ne_of_lt (Nat.lt_succ_of_lt (Heap.lt_size e))) (Nat.ne_of_lt (Heap.lt_size e)) (hk1 b o e)
  obtain ⟨H', k1, k2, k3, k4, k5, k6, k7, k8, J⟩ := en_laid (s' := { s1 with heap := h', toks := tk }) I1 rfl I1.bare hz rv (by show s1.heap.objs.size ≤ h1.objs.size; omega) hkk hS (by rw [hl]; simp) hG hacc
  exact ⟨.ref _, H', J, rfl, q H' _ as k1 k2 k3 k4 k5 k6 k7 k8⟩
/-- list(enumerate(xs)) -/
def enP (n : Nat) : List PV → List PV
  | [] => []
  | x :: xs => .tup [.int (n : Nat), x] :: enP (n + 1) xs
theorem enP_len : ∀ (n : Nat) (xs : List PV), (enP n xs).length = xs.length
  | _, [] => rfl
  | n, x :: xs => by rw [enP, List.length_cons, List.length_cons, enP_len]
theorem enP_get : ∀ (n : Nat) (xs : List PV) (j : Nat) (x : PV), xs[j]? = some x → (enP n xs)[j]? = some (.tup [.int ((n + j : Nat) : Int), x])
  | _, [], _, _, h => by simp at h
  | n, y :: xs, 0, x, h => by simp at h; subst h; rfl
  | n, y :: xs, j + 1, x, h => by
    have q := enP_get (n + 1) xs j x (by simpa using h)
    rw [enP, List.getElem?_cons_succ, q]
    congr 4; omega
def aLstEn (m : AE) : AE := fun σ h => (m σ h).bind fun x h1 => match lstOf x h1 with
  | some xs => new (.lst (enP 0 xs)) h1
  | none => .stuck
theorem je_lstEn {m : AE} (hc : X.calm = true) (hm : X.mg "list" = none) (hm2 : X.mg "enumerate" = none) (he : JE X W e m) (hg : Gl X "list" := by rfl) (hg2 : Gl X "enumerate" := by rfl)
    (na : starEach [.Call (.Name "enumerate" p2) [e] [] pos2] X.env = (false, eval (.Call (.Name "enumerate" p2) [e] [] pos2) X.env) :: starEach [] X.env := by rfl) (na2 : starEach [e] X.env = (false, eval e X.env) :: starEach [] X.env := by rfl) :
    JE X W (.Call (.Name "list" p) [.Call (.Name "enumerate" p2) [e] [] pos2] [] pos) (aLstEn m) :=
  ⟨PEmono (pe_lstEn hc he.pe hg hm hg2 hm2 na na2) fun τ H Q ⟨ρ, h, σ, R, S, o⟩ => ⟨ρ, h, σ, R, S, (Out.bind (R := RV (cxKW X)) o).mono fun x H1 ⟨ρ1, v, h1, e1, R1, q1, o1⟩ => by
    split at o1
    · rename_i xs c
      obtain ⟨a, vs, rfl, s, q⟩ := lst_of R1 q1 c
      refine ⟨a, vs, rfl, s, fun H' p ts kp hp hts hpn nd hH hl hpr => ?_⟩
      have notin : ∀ t, H1 t = none → t ∉ ρ1 := fun t ht => R1.notin ht
      have x1 : Ext ρ1 H1 (ρ1 ++ [p]) H' := ⟨List.prefix_append _ _, fun b u e n => ⟨kp b u e, by
        rw [List.mem_append, List.mem_singleton]; rintro (z | z); exact n z; subst z; rw [hp] at e; cases e⟩, fun b ob u e => kp b _ e⟩
      have rvs : RVs (cxKW X) (ρ1 ++ [p]) H' (enP 0 xs) (ts.map V.ref) := by
        refine ⟨by rw [List.length_map, enP_len, hl, q.len], fun j y v ej ev => ?_⟩
        rw [List.getElem?_map] at ev
        cases ct : ts[j]? with
        | none => rw [ct] at ev; cases ev
        | some t =>
          rw [ct] at ev; cases ev
          obtain ⟨w, ew, hw⟩ := hpr j t ct
          have hj : j < xs.length := by rw [← q.len]; exact (List.getElem?_eq_some_iff.mp ew).1
          have ex : xs[j]? = some xs[j] := by simp [hj]
          rw [enP_get 0 xs j _ ex] at ej
          cases ej
          have rw' : RV (cxKW X) (ρ1 ++ [p]) H' xs[j] w := (q.at_ j _ _ ex ew).mono x1
          refine .tup [.int (j : Nat), w] (.inl ⟨.inl hw, ?_⟩) rfl (RVs.cons ?_ (RVs.cons rw' .nil)).at_
          · have ht := hts t (List.mem_of_getElem? ct)
            rw [List.mem_append, List.mem_singleton]
            rintro (z | z)
            · exact notin t ht z
            · exact hpn (z ▸ List.mem_of_getElem? ct)
          · rw [Nat.zero_add]; exact .int _
      refine o1 (ρ1 ++ [p]) H' (.ref p) x1 ⟨?_, by simp [R1.len], fun n a o en eo => ?_⟩ (.loc (by rw [← R1.len]; simp))
      · rw [List.nodup_append]
        exact ⟨R1.nd, by simp, fun a ha b hb z => by rw [List.mem_singleton] at hb; subst hb; subst z; exact notin _ hp ha⟩
      · by_cases hn : n < ρ1.length
        · rw [List.getElem?_append_left hn] at en
          rw [List.getElem?_append_left (by rw [← R1.len]; exact hn)] at eo
          refine (R1.obj n a o en eo).mono x1 ?_
          obtain ⟨u, eu⟩ := R1.here en
          rw [eu]; exact kp a u eu
        · rw [List.getElem?_append_right (by omega)] at en
          rw [List.getElem?_append_right (by rw [← R1.len]; omega), ← R1.len] at eo
          have e0 : n - ρ1.length = 0 := by
            have := (List.getElem?_eq_some_iff.mp en).1
            simp at this; omega
          rw [e0] at en eo
          simp at en eo
          subst en; subst eo
          exact ⟨_, hH, rvs⟩
    · exact o1.elim⟩⟩
end
end AB

/-! AB9: pairs stored at once, range with a step, len(set(..)), dicts, calls with keywords -/
namespace AB
open PySem PySem.Spec
open PyProof.Rows hiding St
open L2
section
variable {X : Cx} {W : WX} {K : KW}
/-! ### a, b = x, y -/
def sPar (i j : Nat) (l : AL) : AS := fun σ h => liftS (l σ h) σ fun xs h1 => match xs with
  | [x, y] => .fin .nx ((σ.set i (some x)).set j (some y)) h1
  | _ => .stuck
theorem js_par (i j : Nat) {x y : Str} {a b : Expr} {l : AL} {px py pt : Pos} {kt k2 : Nat} {pt2 pos : Pos} (hc : X.calm = true) (hN : X.N.Nodup) (ha : JA X W [a, b] l) (hi : X.N[i]? = some x := by rfl) (hj : X.N[j]? = some y := by rfl) (hij : i ≠ j := by decide)
    (hx : X.env.scope.names.lookup x = some .local := by rfl) (hy : X.env.scope.names.lookup y = some .local := by rfl)
    (hw : swappedStores [.Tuple [.Name x px, .Name y py] kt pt] (.Tuple [a, b] k2 pt2) X.env = pure (some [x, y]) := by rfl)
    (hs : swapsWithSole [.Tuple [.Name x px, .Name y py] kt pt] (.Tuple [a, b] k2 pt2) pos.line X.env = pure false := by rfl) :
    JS X W (.Assign [.Tuple [.Name x px, .Name y py] kt pt] (.Tuple [a, b] k2 pt2) pos) (sPar i j l) :=
  ⟨PSmono (ps_par (i := i) (j := j) hc hN hi hj hij hx hy ha.pa hw hs) fun D τ H ⟨ρ, h, σ, R, S, o⟩ => ⟨ρ, h, σ, R, S, (OutS.lift (R := RVs (cxKW X)) S o).mono fun vs H1 ⟨ρ1, xs, h1, e1, R1, q1, o1⟩ => by
    split at o1
    · obtain ⟨v, w, rfl, r1, r2⟩ := two_inv q1
      exact ⟨v, w, rfl, o1 ρ1 _ H1 .refl R1 (((S.mono e1).set i r1).set j r2)⟩
    · exact o1.elim⟩⟩
/-! ### range(a, b, c) -/
def itRc (lo c : Int) (n : Nat) : AI := ⟨n, fun i _ => if i < n then some (some (.int (lo + (i : Nat) * c))) else some none⟩
theorem aiok_rc {ρ0 : List Addr} {H0 : Hp} (lo c : Int) (n : Nat) : AIok K ρ0 H0 (itRc lo c n) (Itc lo c n) := fun i ρ h H e R => by
  unfold itRc
  dsimp only
  by_cases q : i < n
  · rw [if_pos q]
    exact ⟨q, fun v H' ⟨e1, e2⟩ => by subst e1; subst e2; exact ⟨.refl, R, .int _⟩⟩
  · rw [if_neg q]
    show n ≤ i
    omega
/-- steps of -1 -/
def aItR3 (l : AL) : AIt := fun σ h => (l σ h).bind fun xs h1 => match xs with
  | [.int i, .int j, .int c] => if c = -1 ∧ -(2 ^ 62) ≤ i ∧ i < 2 ^ 62 ∧ -(2 ^ 62) ≤ j ∧ j < 2 ^ 62 then .ok (itRc i c (i - j).toNat) h1 else .stuck
  | _ => .stuck
theorem ji_rg3 {tg a b c : Expr} {l : AL} {p pos : Pos} (hm : X.mg "range" = none) (ha : JA X W [a, b, c] l) (hg : Gl X "range" := by rfl) (hs : starEach [a, b, c] X.env = (false, eval a X.env) :: starEach [b, c] X.env := by rfl) (hpl : (backTo pos (starEach [b, c] X.env)).any (·.1) = false := by rfl) :
    JI X W tg (.Call (.Name "range" p) [a, b, c] [] pos) (aItR3 l) :=
  ⟨PImono (pi_range3 hg hm ha.pa hs hpl) fun τ H Rk ⟨ρ, h, σ, R, S, o⟩ => ⟨ρ, h, σ, R, S, (Out.bind (R := RVs (cxKW X)) o).mono fun x H1 ⟨ρ1, v, h1, e1, R1, q1, o1⟩ => by
    split at o1
    · rename_i i j c
      split at o1
      · rename_i q
        obtain ⟨w, t, rfl, r1, s⟩ := q1.cons_inv
        obtain ⟨w', w'', rfl, r2, r3⟩ := two_inv s
        obtain ⟨rfl, h1, h2, h3, h4⟩ := q
        exact ⟨i, j, -1, (i - j).toNat, by rw [r1.int_inv, r2.int_inv, r3.int_inv], RgC.neg h1 h2 h3 h4, Out.done o1 R1 (aiok_rc _ _ _)⟩
      · exact o1.elim
    · exact o1.elim⟩⟩
/-! ### len(set(xs)), ints -/
def dedI (ns : List Int) : List Int := ns.foldl (fun s k => if s.any (· == k) then s else s ++ [k]) []
theorem firstMet_ded (ns : List Int) : firstMet (fun i => ns.getD i 0) ns.length = dedI ns := by
  unfold firstMet dedI
  have e : (List.range ns.length).map (fun i => ns.getD i 0) = ns := by
    apply List.ext_getElem
    · simp
    · intro i h1 h2
      simp [List.getElem?_eq_getElem h2]
  rw [e]; rfl
def tLenSetI2 (K : PySem.W.Frag) (ta : TE) : TE := fun σ H Q => ta σ H fun x H1 => ∃ (l : Addr) (ns : List Int), x = V.ref l ∧ SqL K H1 l (ns.map V.int) ∧ ns.length < 64 ∧ Q (.int (dedI ns).length) H1
theorem pe_lenSetI2 {a : Expr} {ta : TE} {p p2 q pos : Pos} (hc : X.calm = true) (hg : Gl X "len") (hm : X.mg "len" = none) (hg2 : Gl X "set") (hm2 : X.mg "set" = none) (ha : PE X a ta)
    (na : starEach [a] X.env = (false, eval a X.env) :: starEach [] X.env := by rfl) : PE X (.Call (.Name "len" p) [.Call (.Name "set" p2) [a] [] q] [] pos) (tLenSetI2 X.K ta) := by
  refine ⟨fun pins s σ H Q I h => ?_⟩
  refine Call_ (ld_blt I hg hm PySem.boot_len ?_)
  refine PyProof.Rows.callWith_builtin1 (PyProof.Rows.args_cons ?_ rfl) rfl rfl
  refine Call_ (ld_blt I hg2 hm2 PyProof.Rows.boot_set ?_)
  refine PyProof.Rows.callWith_type1 (PyProof.Rows.args_cons (thn (ha.run pins s σ H _ I h) fun v s1 ⟨x, H1, I1, r1, q1⟩ => PyProof.Rows.args_nil ?_) na) na rfl
  obtain ⟨l, ns, rfl, hq, h1, q1⟩ := q1
  cases r1
  obtain ⟨its, r, pl, hz⟩ := I1.list hq
  have hl : its.toArray.size = ns.length := by rw [List.size_toArray, ← r.length, List.length_map]
  have hle : (dedI ns).length ≤ ns.length := by rw [← firstMet_ded]; exact firstMet_length_le _ _
  refine call_set_list (I1.ok.hd hc) pl.isList (ns := ns) (by simpa using r.ints) (by unfold scanBound; omega) fun h' tk hS hk => ?_
  rw [hl, firstMet_ded] at hS
  refine PyProof.Rows.args_nil ?_
  obtain ⟨o, es, ep, t, ho, hex, hd, _, _, _, hf, hn⟩ := hS
  have I2 : Inv X pins σ H1 { s1 with heap := h', toks := tk } := I1.kept fun b o e => hk b o (Heap.lt_size e) e
  refine call_len_set ho hex hd hf (by rw [hn] <;> omega) ⟨.int (dedI ns).length, H1, I2.tok _, ⟨_, by rw [hn]⟩, q1⟩
def aLenSet (m : AE) : AE := fun σ h => (m σ h).bind fun x h1 => match (lstOf x h1).bind intsOf with
  | some ns => if ns.length < 64 then .ok (.int (dedI ns).length) h1 else .stuck
  | none => .stuck
theorem je_lenSet {a : Expr} {m : AE} {p p2 q pos : Pos} (hc : X.calm = true) (hm : X.mg "len" = none) (hm2 : X.mg "set" = none) (ha : JE X W a m) (hg : Gl X "len" := by rfl) (hg2 : Gl X "set" := by rfl)
    (na : starEach [a] X.env = (false, eval a X.env) :: starEach [] X.env := by rfl) : JE X W (.Call (.Name "len" p) [.Call (.Name "set" p2) [a] [] q] [] pos) (aLenSet m) :=
  ⟨PEmono (pe_lenSetI2 hc hg hm hg2 hm2 ha.pe na) fun τ H Q ⟨ρ, h, σ, R, S, o⟩ => ⟨ρ, h, σ, R, S, (Out.bind (R := RV (cxKW X)) o).mono fun x H1 ⟨ρ1, v, h1, e1, R1, q1, o1⟩ => by
    split at o1
    · rename_i ns e
      split at o1
      · rename_i hz
        obtain ⟨p, rfl, s⟩ := ints_at R1 q1 e
        exact ⟨p, ns, rfl, s, hz, Out.done o1 R1 (.int _)⟩
      · exact o1.elim
    · exact o1.elim⟩⟩
/-! ### dicts by ints and texts -/
def keyP : PV → Option Key
  | .int i => some (.inl i)
  | .str x => some (.inr x)
  | _ => none
theorem keyP_of {ρ : List Addr} {H : Hp} {v : PV} {x : V} {k : Key} (e : keyP v = some k) (r : RV K ρ H v x) : x = kV k := by
  cases v <;> simp [keyP] at e
  · subst e; exact r.int_inv
  · subst e; exact r.str_inv
def valP {κ : Type} [DecidableEq κ] (kvs : List (κ × PV)) (k : κ) : Option PV := (kvs.find? fun kv => decide (kv.1 = k)).map (·.2)
def putP {κ : Type} [DecidableEq κ] (kvs : List (κ × PV)) (k : κ) (v : PV) : List (κ × PV) :=
  if (kvs.any fun kv => decide (kv.1 = k)) = true then kvs.map (fun kv => if kv.1 = k then (kv.1, v) else kv) else kvs ++ [(k, v)]
theorem RKV.nil {κ : Type} {ρ : List Addr} {H : Hp} : RKV K ρ H ([] : List (κ × PV)) [] := ⟨rfl, .nil⟩
theorem RKV.cons_inv {κ : Type} {ρ : List Addr} {H : Hp} {p : κ × PV} {kvs : List (κ × PV)} {vs : List (κ × V)} (r : RKV K ρ H (p :: kvs) vs) : ∃ v vs', vs = (p.1, v) :: vs' ∧ RV K ρ H p.2 v ∧ RKV K ρ H kvs vs' := by
  cases vs with
  | nil => have := r.keys; simp at this
  | cons q vs' =>
    have hk := r.keys
    simp only [List.map_cons, List.cons.injEq] at hk
    obtain ⟨v, t, e, q1, s⟩ := r.vals.cons_inv
    simp only [List.map_cons, List.cons.injEq] at e
    obtain ⟨e1, e2⟩ := e
    exact ⟨q.2, vs', by rw [← hk.1], by rw [e1]; exact q1, hk.2, by rw [e2]; exact s⟩
theorem RKV.cons {κ : Type} {ρ : List Addr} {H : Hp} {k : κ} {x : PV} {v : V} {kvs : List (κ × PV)} {vs : List (κ × V)} (q : RV K ρ H x v) (r : RKV K ρ H kvs vs) : RKV K ρ H ((k, x) :: kvs) ((k, v) :: vs) :=
  ⟨by simp [r.keys], .cons q r.vals⟩
theorem RKV.val {κ : Type} [DecidableEq κ] {ρ : List Addr} {H : Hp} (k : κ) : ∀ {kvs : List (κ × PV)} {vs : List (κ × V)}, RKV K ρ H kvs vs → (valP kvs k = none ∧ valV vs k = none) ∨ ∃ x v, valP kvs k = some x ∧ valV vs k = some v ∧ RV K ρ H x v
  | [], vs, r => by
    have : vs = [] := by have := r.keys; simpa using this
    subst this; exact .inl ⟨rfl, rfl⟩
  | p :: kvs, vs, r => by
    obtain ⟨v, vs', rfl, q, s⟩ := r.cons_inv
    unfold valP valV
    by_cases e : p.1 = k
    · rw [List.find?_cons_of_pos (by simp [e]), List.find?_cons_of_pos (by simp [e])]
      exact .inr ⟨_, _, rfl, rfl, q⟩
    · rw [List.find?_cons_of_neg (by simp [e]), List.find?_cons_of_neg (by simp [e])]
      exact RKV.val k s
theorem RKV.any {κ : Type} [DecidableEq κ] {ρ : List Addr} {H : Hp} (k : κ) : ∀ {kvs : List (κ × PV)} {vs : List (κ × V)}, RKV K ρ H kvs vs → (vs.any fun kv => decide (kv.1 = k)) = (kvs.any fun kv => decide (kv.1 = k))
  | [], vs, r => by
    have : vs = [] := by have := r.keys; simpa using this
    subst this; rfl
  | p :: kvs, vs, r => by
    obtain ⟨v, vs', rfl, q, s⟩ := r.cons_inv
    rw [List.any_cons, List.any_cons, RKV.any k s]
theorem RKV.len {κ : Type} {ρ : List Addr} {H : Hp} {kvs : List (κ × PV)} {vs : List (κ × V)} (r : RKV K ρ H kvs vs) : vs.length = kvs.length := by
  have := congrArg List.length r.keys; simpa using this
theorem RKV.mapped {κ : Type} [DecidableEq κ] {ρ : List Addr} {H : Hp} (k : κ) {x : PV} {v : V} (q : RV K ρ H x v) : ∀ {kvs : List (κ × PV)} {vs : List (κ × V)}, RKV K ρ H kvs vs → RKV K ρ H (kvs.map fun kv => if kv.1 = k then (kv.1, x) else kv) (vs.map fun kv => if kv.1 = k then (kv.1, v) else kv)
  | [], vs, r => by
    have : vs = [] := by have := r.keys; simpa using this
    subst this; exact .nil
  | p :: kvs, vs, r => by
    obtain ⟨w, vs', rfl, q2, s⟩ := r.cons_inv
    rw [List.map_cons, List.map_cons]
    by_cases e : p.1 = k
    · simp only [e, if_true]; exact .cons q (RKV.mapped k q s)
    · simp only [e, if_false]; exact .cons q2 (RKV.mapped k q s)
theorem RKV.snoc {κ : Type} {ρ : List Addr} {H : Hp} {k : κ} {x : PV} {v : V} (q : RV K ρ H x v) {kvs : List (κ × PV)} {vs : List (κ × V)} (r : RKV K ρ H kvs vs) : RKV K ρ H (kvs ++ [(k, x)]) (vs ++ [(k, v)]) :=
  ⟨by simp [r.keys], by
    rw [List.map_append, List.map_append]; exact r.vals.append (.cons q .nil)⟩
theorem RKV.put {κ : Type} [DecidableEq κ] {ρ : List Addr} {H : Hp} {k : κ} {x : PV} {v : V} {kvs : List (κ × PV)} {vs : List (κ × V)} (r : RKV K ρ H kvs vs) (q : RV K ρ H x v) : RKV K ρ H (putP kvs k x) (putK vs k v) := by
  unfold putP putK
  rw [r.any k]
  split
  · exact r.mapped k q
  · exact .snoc q r
theorem loc_dK {ρ : List Addr} {h : AH} {H : Hp} {n : Nat} {x : V} {kvs : List (Key × PV)} (R : Rep K ρ h H) (r : RV K ρ H (.loc n) x) (e : h[n]? = some (.dK kvs)) : ∃ p vs, x = .ref p ∧ ρ[n]? = some p ∧ H p = some (.dK vs) ∧ RKV K ρ H kvs vs := by
  obtain ⟨p, rfl, ep⟩ := r.loc_inv
  obtain ⟨vs, e1, q⟩ := R.obj n p _ ep e
  exact ⟨p, vs, rfl, ep, e1, q⟩
def fDget : F2
  | .loc n, k, h => match h[n]?, keyP k with
    | some (.dK kvs), some key => match valP kvs key with
      | some v => .ok v h
      | none => .stuck
    | _, _ => .stuck
  | _, _, _ => .stuck
theorem je_dget {o i : Expr} {mo mi : AE} {pos : Pos} (hu : X.A.units + 1 < cLine) (ho : JE X W o mo) (hi : JE X W i mi) (hs : NoSl i := by exact fun _ _ => rfl) : JE X W (.Subscript o i pos) (aOp fDget mo mi) :=
  ⟨PEmono (pe_dget hu ho.pe hi.pe hs) fun τ H Q ⟨ρ, h, σ, R, S, o⟩ => ⟨ρ, h, σ, R, S, (Out.bind (R := RV (cxKW X)) o).mono fun x H1 ⟨ρ1, v, h1, e1, R1, q1, o1⟩ => ⟨ρ1, h1, σ, R1, S.mono e1, (Out.bind (R := RV (cxKW X)) o1).mono fun y H2 ⟨ρ2, u, h2, e2, R2, q2, o2⟩ => by
    unfold fDget at o2
    split at o2
    · rename_i n
      split at o2
      · rename_i kvs key eh ek
        split at o2
        · rename_i v ev
          obtain ⟨p, vs, rfl, ep, eH, r⟩ := loc_dK R2 (q1.mono e2) eh
          have ey := keyP_of ek q2
          subst ey
          rcases r.val key with ⟨z, _⟩ | ⟨x', v', z1, z2, z3⟩
          · rw [ev] at z; cases z
          · rw [ev] at z1; cases z1
            exact ⟨p, v', rfl, by rw [← z2]; exact .k eH, Out.done o2 R2 z3⟩
        · exact o2.elim
      · exact o2.elim
    · exact o2.elim⟩⟩⟩
def fDin : F2
  | k, .loc n, h => match h[n]?, keyP k with
    | some (.dK kvs), some key => .ok (.bl (valP kvs key).isSome) h
    | _, _ => .stuck
  | _, _, _ => .stuck
def fDnin : F2
  | k, .loc n, h => match h[n]?, keyP k with
    | some (.dK kvs), some key => .ok (.bl (!(valP kvs key).isSome)) h
    | _, _ => .stuck
  | _, _, _ => .stuck
theorem le_din {mo mi : AE} {τ : St} {H : Hp} {Q : VK} (o : LE K W (aOp fDin mi mo) τ H Q) : tDIn (LE K W mi) (LE K W mo) τ H Q := by
  obtain ⟨ρ, h, σ, R, S, o⟩ := o
  refine ⟨ρ, h, σ, R, S, (Out.bind (R := RV K) o).mono fun y H1 ⟨ρ1, u, h1, e1, R1, q1, o1⟩ => ⟨ρ1, h1, σ, R1, S.mono e1, (Out.bind (R := RV K) o1).mono fun x H2 ⟨ρ2, v, h2, e2, R2, q2, o2⟩ => ?_⟩⟩
  unfold fDin at o2
  split at o2
  · split at o2
    · rename_i kvs key eh ek
      obtain ⟨p, vs, rfl, ep, eH, r⟩ := loc_dK R2 q2 eh
      have ey := keyP_of ek (q1.mono e2)
      subst ey
      refine ⟨p, _, rfl, .k eH, ?_⟩
      have es : (valV vs key).isSome = (valP kvs key).isSome := by
        rcases r.val key with ⟨z1, z2⟩ | ⟨x', v', z1, z2, z3⟩
        · rw [z1, z2]; rfl
        · rw [z1, z2]; rfl
      rw [es]
      exact Out.done o2 R2 (.bl _)
    · exact o2.elim
  · exact o2.elim
theorem le_dnin {mo mi : AE} {τ : St} {H : Hp} {Q : VK} (o : LE K W (aOp fDnin mi mo) τ H Q) : tDNotIn (LE K W mi) (LE K W mo) τ H Q := by
  obtain ⟨ρ, h, σ, R, S, o⟩ := o
  refine ⟨ρ, h, σ, R, S, (Out.bind (R := RV K) o).mono fun y H1 ⟨ρ1, u, h1, e1, R1, q1, o1⟩ => ⟨ρ1, h1, σ, R1, S.mono e1, (Out.bind (R := RV K) o1).mono fun x H2 ⟨ρ2, v, h2, e2, R2, q2, o2⟩ => ?_⟩⟩
  unfold fDnin at o2
  split at o2
  · split at o2
    · rename_i kvs key eh ek
      obtain ⟨p, vs, rfl, ep, eH, r⟩ := loc_dK R2 q2 eh
      have ey := keyP_of ek (q1.mono e2)
      subst ey
      refine ⟨p, _, rfl, .k eH, ?_⟩
      have es : (valV vs key).isSome = (valP kvs key).isSome := by
        rcases r.val key with ⟨z1, z2⟩ | ⟨x', v', z1, z2, z3⟩
        · rw [z1, z2]; rfl
        · rw [z1, z2]; rfl
      rw [es]
      exact Out.done o2 R2 (.bl _)
    · exact o2.elim
  · exact o2.elim
theorem je_din {o i : Expr} {mo mi : AE} {pos : Pos} (hu : X.A.units + 1 < cLine) (hi : JE X W i mi) (ho : JE X W o mo) (hm : behindInMarks .In o = false := by with_unfolding_all rfl) : JE X W (.Compare i [.In] [o] pos) (aOp fDin mi mo) :=
  ⟨PEmono (pe_cmp (pc_din hu hi.pe ho.pe) hm) fun τ H Q o => le_din o⟩
theorem je_dnin {o i : Expr} {mo mi : AE} {pos : Pos} (hu : X.A.units + 1 < cLine) (hi : JE X W i mi) (ho : JE X W o mo) (hm : behindInMarks .NotIn o = false := by with_unfolding_all rfl) : JE X W (.Compare i [.NotIn] [o] pos) (aOp fDnin mi mo) :=
  ⟨PEmono (pe_cmp (pc_dnotin hu hi.pe ho.pe) hm) fun τ H Q o => le_dnin o⟩
theorem jt_din {o i : Expr} {mo mi : AE} {pos : Pos} (hu : X.A.units + 1 < cLine) (hi : JE X W i mi) (ho : JE X W o mo) (hm : behindInMarks .In o = false := by with_unfolding_all rfl) : JT X W (.Compare i [.In] [o] pos) (aB (aOp fDin mi mo)) :=
  ⟨PTmono (pt_cmp (pc_din hu hi.pe ho.pe) hm) fun τ H Q o => by
    obtain ⟨ρ, h, σ, R, S, o'⟩ := le_b o
    exact le_din ⟨ρ, h, σ, R, S, o'⟩⟩
theorem jt_dnin {o i : Expr} {mo mi : AE} {pos : Pos} (hu : X.A.units + 1 < cLine) (hi : JE X W i mi) (ho : JE X W o mo) (hm : behindInMarks .NotIn o = false := by with_unfolding_all rfl) : JT X W (.Compare i [.NotIn] [o] pos) (aB (aOp fDnin mi mo)) :=
  ⟨PTmono (pt_cmp (pc_dnotin hu hi.pe ho.pe) hm) fun τ H Q o => by
    obtain ⟨ρ, h, σ, R, S, o'⟩ := le_b o
    exact le_dnin ⟨ρ, h, σ, R, S, o'⟩⟩
def aDnew : AE := fun _ h => new (.dK []) h
theorem new_dK {ρ : List Addr} {h : AH} {H : Hp} {τ : St} {Q : VK} {xs : List (Key × PV)} {vs : List (Key × V)} (R : Rep K ρ h H) (r : RKV K ρ H xs vs) (o : OutE K W ρ τ H (new (.dK xs) h) Q) : ∀ p, H p = none → Q (.ref p) (upd H p (.dK vs)) := fun p hp => by
  refine o (ρ ++ [p]) (upd H p (.dK vs)) (.ref p) (.push hp) (R.push hp ⟨vs, upd_same, r.mono (.push hp)⟩) (.loc ?_)
  rw [← R.len]; simp
theorem je_dnew {pos : Pos} : JE X W (.Dict [] [] pos) aDnew := ⟨PEmono pe_dnewK fun τ H Q ⟨ρ, h, σ, R, S, o⟩ => new_dK R .nil o⟩
/-- d[k] = v -/
def sDput (mo mi mv : AE) : AS := fun σ h => liftS (mv σ h) σ fun v h1 => liftS (mo σ h1) σ fun d h2 => liftS (mi σ h2) σ fun k h3 => match d with
  | .loc n => match h3[n]?, keyP k with
    | some (.dK kvs), some key => if kvs.length < sizeLine then .fin .nx σ (h3.set n (.dK (putP kvs key v))) else .stuck
    | _, _ => .stuck
  | _ => .stuck
theorem js_dput {o i e : Expr} {mo mi mv : AE} {pos pos' : Pos} (hu : X.A.units + 1 < cLine) (ho : JE X W o mo) (hi : JE X W i mi) (hv : JE X W e mv) (hs : swapsWith e (some (.Subscript o i pos')) pos.line X.env = pure false := by rfl) : JS X W (.Assign [.Subscript o i pos'] e pos) (sDput mo mi mv) :=
  ⟨PSmono (ps_dput hu ho.pe hi.pe hv.pe hs) fun D τ H ⟨ρ, h, σ, R, S, o⟩ => ⟨ρ, h, σ, R, S, (OutS.lift (R := RV (cxKW X)) S o).mono fun x H1 ⟨ρ1, v, h1, e1, R1, q1, o1⟩ =>
    ⟨ρ1, h1, σ, R1, S.mono e1, (OutS.lift (R := RV (cxKW X)) (S.mono e1) o1).mono fun y H2 ⟨ρ2, d, h2, e2, R2, q2, o2⟩ =>
    ⟨ρ2, h2, σ, R2, (S.mono e1).mono e2, (OutS.lift (R := RV (cxKW X)) ((S.mono e1).mono e2) o2).mono fun z H3 ⟨ρ3, k, h3, e3, R3, q3, o3⟩ => by
      split at o3
      · rename_i n
        split at o3
        · rename_i kvs key eh ek
          split at o3
          · rename_i hz
            obtain ⟨p, vs, rfl, ep, eH, r⟩ := loc_dK R3 (q2.mono e3) eh
            have ey := keyP_of ek q3
            subst ey
            have rx := (q1.mono e2).mono e3
            have x4 : Ext ρ3 H3 ρ3 (upd H3 p (.dK (putK vs key x))) := .write ep (nfK eH)
            exact ⟨p, _, rfl, .k eH (by rw [r.len]; exact hz), o3 ρ3 τ _ x4 (R3.write (u := .dK (putP kvs key v)) ep (nfK eH) ⟨_, upd_same, (r.put rx).mono x4⟩) ((((S.mono e1).mono e2).mono e3).mono x4)⟩
          · exact o3.elim
        · exact o3.elim
      · exact o3.elim⟩⟩⟩⟩
/-- {k: v} -/
def aDict1 (mk mv : AE) : AE := fun σ h => (mk σ (h ++ [.dK []])).bind fun k h1 => (mv σ h1).bind fun v h2 => match keyP k, h2[h.length]? with
  | some key, some (.dK []) => .ok (.loc h.length) (h2.set h.length (.dK [(key, v)]))
  | _, _ => .stuck
theorem je_dict1 {k v : Expr} {mk mv : AE} {pos : Pos} (hk : JE X W k mk) (hv : JE X W v mv) : JE X W (.Dict [some k] [v] pos) (aDict1 mk mv) :=
  ⟨PEmono (pe_disp (pps_cons hk.pe hv.pe pps_nil) rfl rfl (by simp) (by simp)) fun τ H Q ⟨ρ, h, σ, R, S, o⟩ => by
    intro D hD
    have x1 : Ext ρ H (ρ ++ [D]) (upd H D (.dK [])) := .push hD
    have R1 : Rep (cxKW X) (ρ ++ [D]) (h ++ [.dK []]) (upd H D (.dK [])) := R.push hD ⟨[], upd_same, .nil⟩
    have ed : (ρ ++ [D])[h.length]? = some D := by rw [← R.len]; simp
    refine ⟨ρ ++ [D], _, σ, R1, S.mono x1, (Out.bind (R := RV (cxKW X)) (Out.later o x1)).mono fun y H2 ⟨ρ2, u, h2, e2, R2, q2, o2⟩ => ?_⟩
    refine ⟨ρ2, h2, σ, R2, (S.mono x1).mono e2, (Out.bind (R := RV (cxKW X)) o2).mono fun z H3 ⟨ρ3, w, h3, e3, R3, q3, o3⟩ => ?_⟩
    split at o3
    · rename_i key ek eh
      have ep := (e2.trans e3).get ed
      obtain ⟨p, vs, ep', e4, eH, r⟩ := loc_dK R3 (.loc ep) eh
      cases ep'
      have ev : vs = [] := by have := r.keys; simpa using this
      subst ev
      have ey := keyP_of ek (q2.mono e3)
      subst ey
      refine ⟨eH, [(key, z)], rfl, by simp, ?_⟩
      have x4 : Ext ρ3 H3 ρ3 (upd H3 D (.dK [(key, z)])) := .write ep (nfK eH)
      exact o3 ρ3 _ (.ref D) x4 (R3.write (u := .dK [(key, w)]) ep (nfK eH) ⟨[(key, z)], upd_same, .cons (q3.mono x4) .nil⟩) (.loc ep)
    · exact o3.elim⟩
/-! ### calls with keywords -/
def kwG {α : Type} (n m : Nat) (perm : List Nat) (us ws : List α) : List α := if us.length = n ∧ ws.length = m then perm.filterMap (fun i => (us ++ ws)[i]?) else []
structure KB (K : PySem.W.Frag) (fd : FuncData) (ps ks : List Str) (n : Nat) (perm : List Nat) : Prop where
  to : ∀ (s : Shared) (us ws : List Value), K.In s.heap → us.length = n → ws.length = ks.length → BindsTo s fd ⟨us, ks.zip ws⟩ (ps.zip (kwG n ks.length perm us ws))
theorem RVs_kw {α : Type} {xs ys : List V} {us ws : List Value} {n m : Nat} {perm : List Nat} (r : Vals xs us) (s : Vals ys ws) : Vals (kwG n m perm xs ys) (kwG n m perm us ws) := by
  unfold kwG
  rw [r.length, s.length]
  split
  · have t := r.append s
    induction perm with
    | nil => exact .nil
    | cons i perm ih =>
      rw [List.filterMap_cons, List.filterMap_cons]
      cases c : (xs ++ ys)[i]? with
      | none =>
        rw [Vals.none_of t c]
        exact ih
      | some v =>
        obtain ⟨u, eu, ru⟩ := Vals.get t c
        rw [eu]
        exact .cons ru ih
  · exact .nil
theorem KB.binds {K : PySem.W.Frag} {fd : FuncData} {ps ks : List Str} {n : Nat} {perm : List Nat} (b : KB K fd ps ks n perm) (hp : ps ≠ []) : KBinds K fd ps ks (kwG n ks.length perm) (kwG n ks.length perm) where
  to := fun s us ws hK hl => by
    by_cases c : us.length = n ∧ ws.length = ks.length
    · exact b.to s us ws hK c.1 c.2
    · unfold kwG at hl
      rw [if_neg c] at hl
      exact absurd (List.eq_nil_of_length_eq_zero hl.symm) hp
  rel := fun r s => RVs_kw (α := Unit) r s
theorem RVs.kw {ρ : List Addr} {H : Hp} {xs ys : List PV} {vs ws : List V} {n m : Nat} {perm : List Nat} (r : RVs K ρ H xs vs) (s : RVs K ρ H ys ws) : RVs K ρ H (kwG n m perm xs ys) (kwG n m perm vs ws) := by
  unfold kwG
  rw [r.len, s.len]
  split
  · have t := r.append s
    induction perm with
    | nil => exact .nil
    | cons i perm ih =>
      rw [List.filterMap_cons, List.filterMap_cons]
      cases c : (xs ++ ys)[i]? with
      | none =>
        have : (vs ++ ws)[i]? = none := by
          rw [List.getElem?_eq_none_iff] at c ⊢
          have := t.len; omega
        rw [this]
        exact ih
      | some v =>
        obtain ⟨u, eu, ru⟩ := t.get c
        rw [eu]
        exact .cons ru ih
  · exact .nil
structure JK (X : Cx) (W : WX) (kws : List Keyword) (m : AL) : Prop where
  pk : PK X kws (LL (cxKW X) W m)
theorem PKmono {e : List Keyword} {t t' : TA} (p : PK X e t) (i : ∀ σ H Q, t' σ H Q → t σ H Q) : PK X e t' := ⟨fun pos pins s σ H Q I h => p.run pos pins s σ H Q I (i σ H Q h)⟩
theorem jk_nil : JK X W [] aNil := ⟨PKmono pk_nil fun τ H Q ⟨ρ, h, σ, R, S, o⟩ => Out.done o R RVs.nil⟩
theorem jk_cons {nm : Option Str} {kpos : Pos} {e : Expr} {kws : List Keyword} {m : AE} {r : AL} (ha : JE X W e m) (hr : JK X W kws r) : JK X W (⟨nm, e, kpos⟩ :: kws) (aCons m r) :=
  ⟨PKmono (pk_cons ha.pe hr.pk) fun τ H Q ⟨ρ, h, σ, R, S, o⟩ => ⟨ρ, h, σ, R, S, (Out.bind (R := RV (cxKW X)) o).mono fun x H1 ⟨ρ1, v, h1, e1, R1, q1, o1⟩ =>
    ⟨ρ1, h1, σ, R1, S.mono e1, (Out.bind (R := RVs (cxKW X)) o1).mono fun xs H2 ⟨ρ2, vs, h2, e2, R2, q2, o2⟩ => Out.done o2 R2 (.cons (q1.mono e2) q2)⟩⟩⟩
/-- no exception is let out -/
def noX {α : Type} : Res α → Res α
  | .exc _ _ _ => .stuck
  | r => r
def aCallK (n nk np : Nat) (perm : List Nat) (m : FN) (l lk : AL) : AE := fun σ h => (l σ h).bind fun xs h1 => (lk σ h1).bind fun ys h2 => if (kwG np nk perm xs ys).length = n then noX (m (kwG np nk perm xs ys) h2) else .stuck
theorem OutF.noX {ρ : List Addr} {H : Hp} {τ : St} {r : Res PV} {Q : VK} {E : XK} (o : OutE K W ρ τ H (noX r) Q) : OutF K ρ H r Q E := by
  cases r with
  | ok v h => exact o
  | exc c fs h => exact o.elim
  | stuck => exact o
theorem pass_none (tk : Takes X W) : Passes (L2.CX X.prog X.w) X (fun _ _ _ => False) := passes_call tk fun _ _ _ _ h => h.elim
theorem je_callK {P : Program} {w : World} {K : PySem.W.Frag} {mg : Str → Option Value} {base : Heap} {A : Around} {k : Nat} {f : Addr} {fd : FuncData} {ps ks : List Str} {np : Nat} {perm : List Nat} {m : FN} {l lk : AL} {x : Str} {p pos : Pos} {e : Expr} {es : List Expr} {kws : List Keyword} (F : FnA P w K mg base k f fd ps m) (hr : Room k A) (hm : mg x = some (.ref f)) (hk : PySem.W.keepIn K (.ref f) = true) (hb : KB K fd ps ks np perm) (tk : Takes X W)
    (ha : JA X W (e :: es) l) (hkw : JK X W kws lk) (ci : CxIs X P w K mg base A := by exact ⟨rfl, rfl, rfl, rfl, rfl, rfl⟩) (hp : ps ≠ [] := by exact List.cons_ne_nil _ _) (hg : Gl X x := by rfl) (hall : (backToKw pos (keywordEach kws X.env)).all (·.1.isSome) = true := by rfl) (hks : (backToKw pos (keywordEach kws X.env)).filterMap (·.1) = ks := by rfl)
    (hdb : (x == ("__debug__" : Str)) = false := by decide) (he : starEach (e :: es) X.env = (false, eval e X.env) :: starEach es X.env := by rfl)
    (hpl : ((backTo pos (starEach (e :: es) X.env)).any (·.1) || (backToKw pos (keywordEach kws X.env)).any (·.1.isNone)) = false := by rfl) :
    JE X W (.Call (.Name x p) (e :: es) kws pos) (aCallK ps.length ks.length np perm m l lk) := by
  obtain ⟨rfl, rfl, rfl, rfl, rfl, rfl⟩ := ci
  exact ⟨PEmono (pe_callK F.ok hr hg hm hk (hb.binds hp) (pass_none tk) ha.pa hkw.pk hall hks hdb he hpl) fun τ H Q ⟨ρ, h, σ, R, S, o⟩ => ⟨ρ, h, σ, R, S, (Out.bind (R := RVs (cxKW X)) o).mono fun vs H1 ⟨ρ1, xs, h1, e1, R1, q1, o1⟩ =>
    ⟨ρ1, h1, σ, R1, S.mono e1, (Out.bind (R := RVs (cxKW X)) o1).mono fun ws H2 ⟨ρ2, ys, h2, e2, R2, q2, o2⟩ => by
      split at o2
      · rename_i hx
        have r := RVs.kw (n := np) (m := ks.length) (perm := perm) (q1.mono e2) q2
        exact ⟨by rw [r.len]; exact hx, ρ2, h2, _, R2, r, OutF.noX o2⟩
      · exact o2.elim⟩⟩⟩
theorem pe_callK0 {CX : CXT} {k : Nat} {f : Addr} {fd : FuncData} {ps ks : List Str} {sp : Sp} {E : XK} {x : Str} {p pos : Pos} {kws : List Keyword} {tk : TA} {g : List Value → List Value → List Value} {gV : List V → List V → List V} (F : FnOk X.prog X.w X.K X.mg X.base CX k f fd ps sp) (hr : Room k X.A) (hg : Gl X x) (hm : X.mg x = some (.ref f)) (hk : PySem.W.keepIn X.K (.ref f) = true) (hb : KBinds X.K fd ps ks g gV) (hx : Passes CX X E)
    (hkw : PK X kws tk) (hall : (backToKw pos (keywordEach kws X.env)).all (·.1.isSome) = true := by rfl) (hks : (backToKw pos (keywordEach kws X.env)).filterMap (·.1) = ks := by rfl)
    (hdb : (x == ("__debug__" : Str)) = false := by decide) (hpl : ((backTo pos (starEach [] X.env)).any (·.1) || (backToKw pos (keywordEach kws X.env)).any (·.1.isNone)) = false := by rfl) :
    PE X (.Call (.Name x p) [] kws pos) (tCallK sp gV E tNil tk) := by
  refine ⟨fun pins s σ H Q I h => ?_⟩
  refine wpAny_Call_Name_kw (ld_glob I hg hm ?_ hdb)
  refine PySem.W.callWith_KW0 (h₀ := X.base) I.ok.mod.kin hk hall (thn (hkw.run pos pins s σ H _ I h) fun ws s2 ⟨zs, H2, I2, rz, q2⟩ => ⟨I2.kIn, ?_⟩) hpl
  rw [hks]
  exact run_fnk (us := []) F hr hb hx I2 .nil rz q2
theorem je_callK0 {P : Program} {w : World} {K : PySem.W.Frag} {mg : Str → Option Value} {base : Heap} {A : Around} {k : Nat} {f : Addr} {fd : FuncData} {ps ks : List Str} {perm : List Nat} {m : FN} {lk : AL} {x : Str} {p pos : Pos} {kws : List Keyword} (F : FnA P w K mg base k f fd ps m) (hr : Room k A) (hm : mg x = some (.ref f)) (hk : PySem.W.keepIn K (.ref f) = true) (hb : KB K fd ps ks 0 perm) (tk : Takes X W)
    (hkw : JK X W kws lk) (ci : CxIs X P w K mg base A := by exact ⟨rfl, rfl, rfl, rfl, rfl, rfl⟩) (hp : ps ≠ [] := by exact List.cons_ne_nil _ _) (hg : Gl X x := by rfl) (hall : (backToKw pos (keywordEach kws X.env)).all (·.1.isSome) = true := by rfl) (hks : (backToKw pos (keywordEach kws X.env)).filterMap (·.1) = ks := by rfl)
    (hdb : (x == ("__debug__" : Str)) = false := by decide) (hpl : ((backTo pos (starEach [] X.env)).any (·.1) || (backToKw pos (keywordEach kws X.env)).any (·.1.isNone)) = false := by rfl) :
    JE X W (.Call (.Name x p) [] kws pos) (aCallK ps.length ks.length 0 perm m aNil lk) := by
  obtain ⟨rfl, rfl, rfl, rfl, rfl, rfl⟩ := ci
  exact ⟨PEmono (pe_callK0 F.ok hr hg hm hk (hb.binds hp) (pass_none tk) hkw.pk hall hks hdb hpl) fun τ H Q ⟨ρ, h, σ, R, S, o⟩ => ⟨ρ, h, σ, R, S, by
    have o1 : OutE (cxKW X) W ρ τ H ((lk σ h).bind fun ys h2 => if (kwG 0 ks.length perm [] ys).length = ps.length then noX (m (kwG 0 ks.length perm [] ys) h2) else .stuck) Q := o
    refine (Out.bind (R := RVs (cxKW X)) o1).mono fun ws H2 ⟨ρ2, ys, h2, e2, R2, q2, o2⟩ => ?_
    split at o2
    · rename_i hx
      have r := RVs.kw (n := 0) (m := ks.length) (perm := perm) (RVs.nil (K := cxKW X) (ρ := ρ2) (H := H2)) q2
      exact ⟨by rw [r.len]; exact hx, ρ2, h2, _, R2, r, OutF.noX o2⟩
    · exact o2.elim⟩⟩
end
end AB

/-! AB10: the law's end -/
namespace AB
open PySem PySem.Spec
open PyProof.Rows hiding St
open L2
theorem law_sp {K : PySem.W.Frag} {w : World} {H : Hp} {a : Addr} {ns : List Int} {m : FN} (hS : SqL K H a (ns.map V.int)) (h : ∃ h', m [.ro (ns.map PV.int)] [] = .ok (.bl true) h') :
    spM ⟨K, w⟩ 1 m [.ref a] H (fun v _ => v = .bl true) fun _ _ _ => False := by
  obtain ⟨h', e⟩ := h
  have f : FxR ⟨K, w⟩ [] H a (ns.map V.int) := by
    rcases hS with r | c
    · exact .inl ⟨r, by simp⟩
    · exact .inr c
  have q : RVs ⟨K, w⟩ [] H (ns.map PV.int) (ns.map V.int) := .of_ints ns
  refine ⟨rfl, [], [], [.ro (ns.map PV.int)], ⟨List.nodup_nil, rfl, fun n a o e => by simp at e⟩, .cons (.ro _ f q.len q.at_) .nil, ?_⟩
  rw [e]
  exact fun ρ' H' x _ _ r => r.bl_inv
theorem no_exc {P : Program} {w : World} {H : Hp} {s : Shared} {e : Value} {s' : Shared} (z : L2.CX P w [] H s (fun _ _ _ => False) e s') : False := by
  obtain ⟨a, B, H', cls, d, _, _, _, _, _, _, _, q⟩ := z
  exact q
end AB

/-! AB11: running mirrors: equations for simp, loops by invariants, ends of defs -/
namespace AB
open PySem PySem.Spec
open PyProof.Rows hiding St
open L2
/-! ### equations -/
@[simp] theorem aC_eq (v : PV) (σ : ASt) (h : AH) : aC v σ h = .ok v h := rfl
theorem aVar_eq (i : Nat) (σ : ASt) (h : AH) : aVar i σ h = match σ[i]? with
  | some (some v) => .ok v h
  | _ => .stuck := rfl
@[simp] theorem aVar_0 (v : PV) (r : ASt) (h : AH) : aVar 0 (some v :: r) h = .ok v h := rfl
@[simp] theorem aVar_s (i : Nat) (o : Option PV) (r : ASt) (h : AH) : aVar (i + 1) (o :: r) h = aVar i r h := rfl
@[simp] theorem aOp_eq (f : F2) (a b : AE) (σ : ASt) (h : AH) : aOp f a b σ h = (a σ h).bind fun x h1 => (b σ h1).bind fun y h2 => f x y h2 := rfl
@[simp] theorem aUn_eq (f : F1) (a : AE) (σ : ASt) (h : AH) : aUn f a σ h = (a σ h).bind fun x h1 => f x h1 := rfl
@[simp] theorem aB_eq (m : AE) (σ : ASt) (h : AH) : aB m σ h = (m σ h).bind fun x h1 => match x with
  | .bl b => .ok b h1
  | _ => .stuck := rfl
@[simp] theorem aTr_eq (m : AE) (σ : ASt) (h : AH) : aTr m σ h = (m σ h).bind fun x h1 => match truth x h1 with
  | some b => .ok b h1
  | none => .stuck := rfl
@[simp] theorem aChain_eq (f g : F2) (a b c : AE) (σ : ASt) (h : AH) : aChain f g a b c σ h = (a σ h).bind fun x h1 => (b σ h1).bind fun y h2 => (f x y h2).bind fun z h3 => match z with
  | .bl true => (c σ h3).bind fun w h4 => g y w h4
  | .bl false => .ok (.bl false) h3
  | _ => .stuck := rfl
@[simp] theorem aNil_eq (σ : ASt) (h : AH) : aNil σ h = .ok [] h := rfl
@[simp] theorem aCons_eq (a : AE) (r : AL) (σ : ASt) (h : AH) : aCons a r σ h = (a σ h).bind fun x h1 => (r σ h1).bind fun xs h2 => .ok (x :: xs) h2 := rfl
@[simp] theorem aTup_eq (l : AL) (σ : ASt) (h : AH) : aTup l σ h = (l σ h).bind fun xs h1 => if xs.length ≤ sizeLine then .ok (.tup xs) h1 else .stuck := rfl
@[simp] theorem aLst_eq (l : AL) (σ : ASt) (h : AH) : aLst l σ h = (l σ h).bind fun xs h1 => if xs.length ≤ sizeLine then new (.lst xs) h1 else .stuck := rfl
@[simp] theorem new_eq (o : AO) (h : AH) : new o h = .ok (.loc h.length) (h ++ [o]) := rfl
@[simp] theorem put_eq (n : Nat) (o : AO) (v : PV) (h : AH) : put n o v h = .ok v (h.set n o) := rfl
@[simp] theorem aFn_eq (f : FN) (l : AL) (σ : ASt) (h : AH) : aFn f l σ h = (l σ h).bind f := rfl
@[simp] theorem aCall_eq (n : Nat) (m : FN) (l : AL) (σ : ASt) (h : AH) : aCall n m l σ h = (l σ h).bind fun xs h1 => if xs.length = n then m xs h1 else .stuck := rfl
@[simp] theorem aM_eq (ty : PV → AH → Bool) (f : FM) (o : AE) (l : AL) (σ : ASt) (h : AH) : aM ty f o l σ h = (o σ h).bind fun x h1 => if ty x h1 = true then (l σ h1).bind fun xs h2 => f x xs h2 else .stuck := rfl
@[simp] theorem aSl_eq (m : AE) (lo hi : AP) (σ : ASt) (h : AH) : aSl m lo hi σ h = (m σ h).bind fun x h1 => (lo σ h1).bind fun l h2 => (hi σ h2).bind fun u h3 => fSl x l u h3 := rfl
@[simp] theorem aNoP_eq (σ : ASt) (h : AH) : aNoP σ h = .ok none h := rfl
@[simp] theorem aSoP_eq (m : AE) (σ : ASt) (h : AH) : aSoP m σ h = (m σ h).bind fun x h1 => match x with
  | .int i => .ok (some i) h1
  | _ => .stuck := rfl
@[simp] theorem aAnd_eq (a b : AE) (σ : ASt) (h : AH) : aAnd a b σ h = (a σ h).bind fun x h1 => match x with
  | .bl true => b σ h1
  | .bl false => .ok (.bl false) h1
  | _ => .stuck := rfl
@[simp] theorem aOr_eq (a b : AE) (σ : ASt) (h : AH) : aOr a b σ h = (a σ h).bind fun x h1 => match x with
  | .bl true => .ok (.bl true) h1
  | .bl false => b σ h1
  | _ => .stuck := rfl
@[simp] theorem tAnd_eq (a b : AT) (σ : ASt) (h : AH) : tAnd a b σ h = (a σ h).bind fun x h1 => if x = true then b σ h1 else .ok false h1 := rfl
@[simp] theorem tOr_eq (a b : AT) (σ : ASt) (h : AH) : tOr a b σ h = (a σ h).bind fun x h1 => if x = true then .ok true h1 else b σ h1 := rfl
@[simp] theorem tNot_eq (a : AT) (σ : ASt) (h : AH) : tNot a σ h = (a σ h).bind fun x h1 => .ok (!x) h1 := rfl
@[simp] theorem aIf_eq (c : AT) (a b : AE) (σ : ASt) (h : AH) : aIf c a b σ h = (c σ h).bind fun x h1 => if x = true then a σ h1 else b σ h1 := rfl
@[simp] theorem tYes'_eq (σ : ASt) (h : AH) : tYes' σ h = .ok true h := rfl
@[simp] theorem sExpr_eq (m : AE) (σ : ASt) (h : AH) : sExpr m σ h = liftS (m σ h) σ fun _ h1 => .fin .nx σ h1 := rfl
@[simp] theorem sRet_eq (m : AE) (σ : ASt) (h : AH) : sRet m σ h = liftS (m σ h) σ fun x h1 => .fin (.rt x) σ h1 := rfl
@[simp] theorem sRetN_eq (σ : ASt) (h : AH) : sRetN σ h = .fin (.rt .non) σ h := rfl
@[simp] theorem sNext_eq (σ : ASt) (h : AH) : sNext σ h = .fin .nx σ h := rfl
@[simp] theorem sBreak_eq (σ : ASt) (h : AH) : sBreak σ h = .fin .bk σ h := rfl
@[simp] theorem sCont_eq (σ : ASt) (h : AH) : sCont σ h = .fin .ct σ h := rfl
@[simp] theorem sIf_eq (c : AT) (a b : AS) (σ : ASt) (h : AH) : sIf c a b σ h = liftS (c σ h) σ fun x h1 => if x = true then a σ h1 else b σ h1 := rfl
@[simp] theorem sSet_eq (i : Nat) (m : AE) (σ : ASt) (h : AH) : sSet i m σ h = liftS (m σ h) σ fun x h1 => .fin .nx (σ.set i (some x)) h1 := rfl
@[simp] theorem sAsg_eq (m : AE) (g : AG) (σ : ASt) (h : AH) : sAsg m g σ h = liftS (m σ h) σ fun x h1 => match g x σ h1 with
  | some (σ2, h2) => .fin .nx σ2 h2
  | none => .stuck := rfl
@[simp] theorem sPar_eq (i j : Nat) (l : AL) (σ : ASt) (h : AH) : sPar i j l σ h = liftS (l σ h) σ fun xs h1 => match xs with
  | [x, y] => .fin .nx ((σ.set i (some x)).set j (some y)) h1
  | _ => .stuck := rfl
theorem sSeq_eq (a b : AS) (σ : ASt) (h : AH) : sSeq a b σ h = match a σ h with
  | .fin .nx σ1 h1 => b σ1 h1
  | r => r := rfl
theorem sSeq_nx {a b : AS} {σ σ1 : ASt} {h h1 : AH} (e : a σ h = .fin .nx σ1 h1) : sSeq a b σ h = b σ1 h1 := by rw [sSeq_eq, e]
theorem sSeq_rt {a b : AS} {σ σ1 : ASt} {h h1 : AH} {v : PV} (e : a σ h = .fin (.rt v) σ1 h1) : sSeq a b σ h = .fin (.rt v) σ1 h1 := by rw [sSeq_eq, e]
@[simp] theorem gN_eq (i : Nat) (x : PV) (σ : ASt) (h : AH) : gN i x σ h = some (σ.set i (some x), h) := rfl
@[simp] theorem gTup'_eq (n : Nat) (g : AGs) (xs : List PV) (σ : ASt) (h : AH) : gTup' n g (.tup xs) σ h = if xs.length = n then g xs σ h else none := rfl
@[simp] theorem gCons'_eq (g : AG) (r : AGs) (x : PV) (t : List PV) (σ : ASt) (h : AH) : gCons' g r (x :: t) σ h = match g x σ h with
  | some (σ1, h1) => r t σ1 h1
  | none => none := rfl
@[simp] theorem gNil'_eq (σ : ASt) (h : AH) : gNil' [] σ h = some (σ, h) := rfl
theorem size_ok {n : Nat} (h : n ≤ 1000000) : n ≤ sizeLine := by rw [sizeLine_eq]; omega
theorem size_lt {n : Nat} (h : n ≤ 1000000) : n < sizeLine := by rw [sizeLine_eq]; omega
/-! ### sequences by place -/
theorem atI_ofNat {α : Type} {xs : List α} {i : Int} {x : α} (h0 : 0 ≤ i) (e : xs[i.toNat]? = some x) : atI xs i = some x := by
  have := atI_nat e
  rwa [Int.toNat_of_nonneg h0] at this
theorem ixN_of {n : Nat} {i : Int} (h0 : 0 ≤ i) (h1 : i < n) : ixN n i = some i.toNat := by
  unfold ixN
  rw [if_pos h0, if_pos h1]
theorem fIx_tup {xs : List PV} {i : Int} {x : PV} {h : AH} (e : atI xs i = some x) : fIx (.tup xs) (.int i) h = .ok x h := by
  unfold fIx seqOf; simp only [e]
theorem fIx_lst {xs : List PV} {i : Int} {x : PV} {h : AH} (e : atI xs i = some x) : fIx (.lst xs) (.int i) h = .ok x h := by
  unfold fIx seqOf lstOf; simp only [e]
theorem fIx_loc {n : Nat} {xs : List PV} {i : Int} {x : PV} {h : AH} (en : h[n]? = some (.lst xs)) (e : atI xs i = some x) : fIx (.loc n) (.int i) h = .ok x h := by
  unfold fIx seqOf lstOf; simp only [en, e]
theorem lstOf_loc {n : Nat} {xs : List PV} {h : AH} (en : h[n]? = some (.lst xs)) : lstOf (.loc n) h = some xs := by
  unfold lstOf; simp only [en]
theorem seqOf_loc {n : Nat} {xs : List PV} {h : AH} (en : h[n]? = some (.lst xs)) : seqOf (.loc n) h = some xs := by
  unfold seqOf; exact lstOf_loc en
@[simp] theorem seqOf_tup (xs : List PV) (h : AH) : seqOf (.tup xs) h = some xs := rfl
@[simp] theorem seqOf_lst (xs : List PV) (h : AH) : seqOf (.lst xs) h = some xs := rfl
@[simp] theorem seqOf_ro (xs : List PV) (h : AH) : seqOf (.ro xs) h = some xs := rfl
@[simp] theorem lstOf_lst (xs : List PV) (h : AH) : lstOf (.lst xs) h = some xs := rfl
@[simp] theorem lstOf_ro (xs : List PV) (h : AH) : lstOf (.ro xs) h = some xs := rfl
theorem fnLen_seq {v : PV} {xs : List PV} {h : AH} (e : seqOf v h = some xs) : fnLen [v] h = .ok (.int xs.length) h := by
  unfold fnLen
  cases v <;> simp_all [seqOf, lstOf]
/-! ### ends of defs -/
theorem finC_ok {h h1 : AH} {v v' : PV} (hc : ∀ n, n < h.length → h1[n]? = h[n]? ∨ ∃ o, h1[n]? = some o ∧ o.low h.length = true) (hv : frz h.length h1 v = some v') : finC h.length h h1 v = .ok v' (h1.take h.length) := by
  unfold finC
  rw [if_pos (cutB_of hc), hv]
/-- nothing old was touched -/
theorem finC_ext {h g : AH} {v v' : PV} (hv : frz h.length (h ++ g) v = some v') : finC h.length h (h ++ g) v = .ok v' h := by
  rw [finC_ok (fun n hn => .inl (List.getElem?_append_left hn)) hv, List.take_left]
theorem finC_same {h : AH} {v : PV} (hv : v.low h.length = true) : finC h.length h h v = .ok v h := by
  have := finC_ext (h := h) (g := []) (v := v) (v' := v) (by rw [List.append_nil]; exact frz_below hv)
  rwa [List.append_nil] at this
/-- data: no numbers inside -/
def PV.data (v : PV) : Prop := v.low 0 = true
theorem PV.data.low {v : PV} (d : v.data) (k : Nat) : v.low k = true := below_mono (Nat.zero_le k) v d
theorem low_ints (k : Nat) (ns : List Int) : PV.lows k (ns.map PV.int) = true := by
  induction ns with
  | nil => rfl
  | cons n ns ih => simp [PV.lows, PV.low, ih]
theorem low_all {k : Nat} {xs : List PV} (h : ∀ x ∈ xs, x.low k = true) : PV.lows k xs = true := belows_iff.mpr h
theorem aCut_ok {m : AE} {σ : ASt} {h h1 : AH} {v : PV} (e : m σ h = .ok v h1) : aCut m σ h = finC h.length h h1 v := by unfold aCut; rw [e]
theorem mDef_rt {n : Nat} {b : AS} {xs : List PV} {h h1 : AH} {σ : ASt} {v : PV} (e : b (startA n xs) h = .fin (.rt v) σ h1) : mDef false n b xs h = finC h.length h h1 v := by unfold mDef endF; rw [e]; rfl
theorem mDef_nx {n : Nat} {b : AS} {xs : List PV} {h h1 : AH} {σ : ASt} (e : b (startA n xs) h = .fin .nx σ h1) : mDef false n b xs h = finC h.length h h1 .non := by unfold mDef endF; rw [e]; rfl
theorem mDefK_rt {n : Nat} {b : AS} {xs : List PV} {h h1 : AH} {σ : ASt} {v : PV} (e : b (startA n xs) h = .fin (.rt v) σ h1) : mDef true n b xs h = .ok v h1 := by unfold mDef endF; rw [e]; rfl
/-! ### loops -/
/-- a for loop by an invariant of the turn; P: what is wanted of its end -/
theorem forA_rule {a : AI} {g : AG} {b : AS} (xs : List PV) (I : Nat → ASt → AH → Prop) (P : SRes → Prop) (hn : xs.length ≤ a.n)
    (hx : ∀ i σ h, i ≤ xs.length → I i σ h → a.nxt i h = some xs[i]?)
    (step : ∀ i x σ h, xs[i]? = some x → I i σ h → ∃ σ1 h1, g x σ h = some (σ1, h1) ∧
      ((∃ σ2 h2, (b σ1 h1 = .fin .nx σ2 h2 ∨ b σ1 h1 = .fin .ct σ2 h2) ∧ I (i + 1) σ2 h2) ∨ (∃ σ2 h2, b σ1 h1 = .fin .bk σ2 h2 ∧ P (.fin .nx σ2 h2)) ∨ (∃ v σ2 h2, b σ1 h1 = .fin (.rt v) σ2 h2 ∧ P (.fin (.rt v) σ2 h2))))
    (fin : ∀ σ h, I xs.length σ h → P (.fin .nx σ h)) {σ : ASt} {h : AH} (h0 : I 0 σ h) : P (forA a g b a.n 0 σ h) := by
  have key : ∀ (k n i : Nat) (σ : ASt) (h : AH), k = xs.length - i → i ≤ xs.length → xs.length ≤ n + i → I i σ h → P (forA a g b n i σ h) := by
    intro k
    induction k with
    | zero =>
      intro n i σ h hk hi hni hI
      have e : i = xs.length := by omega
      have q := hx i σ h hi hI
      subst e
      unfold forA
      rw [q, List.getElem?_eq_none (Nat.le_refl _)]
      exact fin σ h hI
    | succ k ih =>
      intro n i σ h hk hi hni hI
      have hlt : i < xs.length := by omega
      have q := hx i σ h hi hI
      have ex : xs[i]? = some xs[i] := by simp [hlt]
      obtain ⟨σ1, h1, eg, st⟩ := step i xs[i] σ h ex hI
      unfold forA
      rw [q, ex]
      cases n with
      | zero => omega
      | succ n =>
        simp only [eg]
        rcases st with ⟨σ2, h2, eb | eb, hI2⟩ | ⟨σ2, h2, eb, hP⟩ | ⟨v, σ2, h2, eb, hP⟩
        · rw [eb]; exact ih n (i + 1) σ2 h2 (by omega) (by omega) (by omega) hI2
        · rw [eb]; exact ih n (i + 1) σ2 h2 (by omega) (by omega) (by omega) hI2
        · rw [eb]; exact hP
        · rw [eb]; exact hP
  exact key xs.length a.n 0 σ h rfl (Nat.zero_le _) hn h0
/-- over values; the body goes on each time -/
theorem for_vals {g : AG} {b : AS} (xs : List PV) (I : Nat → ASt → AH → Prop) {σ : ASt} {h : AH} (h0 : I 0 σ h)
    (step : ∀ i x σ h, xs[i]? = some x → I i σ h → ∃ σ1 h1 σ2 h2, g x σ h = some (σ1, h1) ∧ b σ1 h1 = .fin .nx σ2 h2 ∧ I (i + 1) σ2 h2) :
    ∃ σ' h', forA (itVals xs) g b xs.length 0 σ h = .fin .nx σ' h' ∧ I xs.length σ' h' :=
  forA_rule (a := itVals xs) xs I (fun r => ∃ σ' h', r = .fin .nx σ' h' ∧ I xs.length σ' h') (Nat.le_refl _) (fun _ _ _ _ _ => rfl)
    (fun i x σ h ex hI => let ⟨σ1, h1, σ2, h2, e1, e2, e3⟩ := step i x σ h ex hI; ⟨σ1, h1, e1, .inl ⟨σ2, h2, .inl e2, e3⟩⟩) (fun σ h hI => ⟨σ, h, rfl, hI⟩) h0
/-- over a live list that the body leaves -/
theorem for_live {g : AG} {b : AS} (n : Nat) (xs : List PV) (I : Nat → ASt → AH → Prop) {σ : ASt} {h : AH} (h0 : I 0 σ h) (hl : ∀ i σ h, I i σ h → h[n]? = some (.lst xs))
    (step : ∀ i x σ h, xs[i]? = some x → I i σ h → ∃ σ1 h1 σ2 h2, g x σ h = some (σ1, h1) ∧ b σ1 h1 = .fin .nx σ2 h2 ∧ I (i + 1) σ2 h2) :
    ∃ σ' h', forA (itLive (.loc n) xs.length) g b xs.length 0 σ h = .fin .nx σ' h' ∧ I xs.length σ' h' :=
  forA_rule (a := itLive (.loc n) xs.length) xs I (fun r => ∃ σ' h', r = .fin .nx σ' h' ∧ I xs.length σ' h') (Nat.le_refl _) (fun i σ h _ hI => by
      show (lstOf (.loc n) h).map (fun xs => xs[i]?) = _
      rw [lstOf_loc (hl i σ h hI)]; rfl)
    (fun i x σ h ex hI => let ⟨σ1, h1, σ2, h2, e1, e2, e3⟩ := step i x σ h ex hI; ⟨σ1, h1, e1, .inl ⟨σ2, h2, .inl e2, e3⟩⟩) (fun σ h hI => ⟨σ, h, rfl, hI⟩) h0
/-- over range(n) from lo -/
theorem for_rg {g : AG} {b : AS} (lo : Int) (n : Nat) (I : Nat → ASt → AH → Prop) {σ : ASt} {h : AH} (h0 : I 0 σ h)
    (step : ∀ i σ h, i < n → I i σ h → ∃ σ1 h1 σ2 h2, g (.int (lo + (i : Nat))) σ h = some (σ1, h1) ∧ b σ1 h1 = .fin .nx σ2 h2 ∧ I (i + 1) σ2 h2) :
    ∃ σ' h', forA (itRg lo n) g b n 0 σ h = .fin .nx σ' h' ∧ I n σ' h' := by
  have ln : ((List.range n).map fun i => PV.int (lo + (i : Nat))).length = n := by simp
  have q := forA_rule (a := itRg lo n) (g := g) (b := b) ((List.range n).map fun i => PV.int (lo + (i : Nat))) I (fun r => ∃ σ' h', r = .fin .nx σ' h' ∧ I n σ' h') (by rw [ln]; exact Nat.le_refl _) (fun i σ h hi _ => by
      show (if i < n then some (some (PV.int (lo + i))) else some none) = _
      by_cases c : i < n
      · rw [if_pos c]; simp [c]
      · rw [if_neg c]; simp [c])
    (fun i x σ h ex hI => by
      have hi : i < n := by have := (List.getElem?_eq_some_iff.mp ex).1; rwa [ln] at this
      obtain ⟨σ1, h1, σ2, h2, e1, e2, e3⟩ := step i σ h hi hI
      have : x = .int (lo + (i : Nat)) := by simp [hi] at ex; exact ex.symm
      subst this
      exact ⟨σ1, h1, e1, .inl ⟨σ2, h2, .inl e2, e3⟩⟩) (fun σ h hI => ⟨σ, h, rfl, by rw [ln] at hI; exact hI⟩) h0
  exact q
/-- while, by an invariant and a measure; P: what is wanted of the end -/
theorem while_rule {c : AT} {b : AS} (I : ASt → AH → Prop) (μ : ASt → AH → Nat) (P : SRes → Prop)
    (step : ∀ σ h, I σ h → (∃ h1, c σ h = .ok false h1 ∧ P (.fin .nx σ h1)) ∨ (∃ h1, c σ h = .ok true h1 ∧
      ((∃ σ2 h2, (b σ h1 = .fin .nx σ2 h2 ∨ b σ h1 = .fin .ct σ2 h2) ∧ I σ2 h2 ∧ μ σ2 h2 < μ σ h) ∨ (∃ σ2 h2, b σ h1 = .fin .bk σ2 h2 ∧ P (.fin .nx σ2 h2)) ∨ (∃ v σ2 h2, b σ h1 = .fin (.rt v) σ2 h2 ∧ P (.fin (.rt v) σ2 h2))))) {σ : ASt} {h : AH} (h0 : I σ h) : P (sWhile c b σ h) := by
  have key : ∀ (k : Nat) (σ : ASt) (h : AH), μ σ h ≤ k → I σ h → P (sWhile c b σ h) := by
    intro k
    induction k with
    | zero =>
      intro σ h hk hI
      rw [sWhile_eq]
      rcases step σ h hI with ⟨h1, e, p⟩ | ⟨h1, e, st⟩
      · rw [e]; exact p
      · rw [e, liftS_ok, if_pos rfl]
        rcases st with ⟨σ2, h2, _, _, hm⟩ | ⟨σ2, h2, eb, hP⟩ | ⟨v, σ2, h2, eb, hP⟩
        · omega
        · rw [eb]; exact hP
        · rw [eb]; exact hP
    | succ k ih =>
      intro σ h hk hI
      rw [sWhile_eq]
      rcases step σ h hI with ⟨h1, e, p⟩ | ⟨h1, e, st⟩
      · rw [e]; exact p
      · rw [e, liftS_ok, if_pos rfl]
        rcases st with ⟨σ2, h2, eb | eb, hI2, hm⟩ | ⟨σ2, h2, eb, hP⟩ | ⟨v, σ2, h2, eb, hP⟩
        · rw [eb]; exact ih σ2 h2 (by omega) hI2
        · rw [eb]; exact ih σ2 h2 (by omega) hI2
        · rw [eb]; exact hP
        · rw [eb]; exact hP
  exact key _ σ h (Nat.le_refl _) h0
/-! ### comprehensions -/
/-- over what a gives, item by item (xs): f tells for each item what is added (none: nothing); the heap stays -/
theorem lcA_pure {a : AI} {vs : List Nat} {g : AG} {t : AT} {e : AE} {σ : ASt} {h : AH} (xs : List PV) (f : Nat → PV → Option PV) (hn : xs.length ≤ a.n) (hz : xs.length < 1000000)
    (hx : ∀ i (acc : List PV), i ≤ xs.length → a.nxt i (h ++ [.lst acc]) = some xs[i]?)
    (step : ∀ i x (acc : List PV), xs[i]? = some x → ∃ σ1, g x (wipeA σ vs) (h ++ [.lst acc]) = some (σ1, h ++ [.lst acc]) ∧
      ((t σ1 (h ++ [.lst acc]) = .ok false (h ++ [.lst acc]) ∧ f i x = none) ∨ ∃ y, t σ1 (h ++ [.lst acc]) = .ok true (h ++ [.lst acc]) ∧ e σ1 (h ++ [.lst acc]) = .ok y (h ++ [.lst acc]) ∧ f i x = some y)) :
    lcA a vs g t e σ h.length a.n 0 (h ++ [.lst []]) = .ok (.loc h.length) (h ++ [.lst ((xs.zipIdx).filterMap fun p => f p.2 p.1)]) := by
  have key : ∀ (k n i : Nat) (acc : List PV), k = xs.length - i → i ≤ xs.length → xs.length ≤ n + i → acc.length ≤ i →
      lcA a vs g t e σ h.length n i (h ++ [.lst acc]) = .ok (.loc h.length) (h ++ [.lst (acc ++ ((xs.drop i).zipIdx i).filterMap fun p => f p.2 p.1)]) := by
    intro k
    induction k with
    | zero =>
      intro n i acc hk hi hni _
      have ei : i = xs.length := by omega
      subst ei
      unfold lcA
      rw [hx _ acc (Nat.le_refl _), List.getElem?_eq_none (Nat.le_refl _)]
      simp
    | succ k ih =>
      intro n i acc hk hi hni hal
      have hlt : i < xs.length := by omega
      have ex : xs[i]? = some xs[i] := by simp [hlt]
      obtain ⟨σ1, eg, st⟩ := step i xs[i] acc ex
      have ed : xs.drop i = xs[i] :: xs.drop (i + 1) := List.drop_eq_getElem_cons hlt
      unfold lcA
      rw [hx i acc hi, ex]
      cases n with
      | zero => omega
      | succ n =>
        simp only [eg]
        rcases st with ⟨et, ef⟩ | ⟨y, et, ee, ef⟩
        · rw [et]
          dsimp only
          rw [ih n (i + 1) acc (by omega) (by omega) (by omega) (by omega), ed, List.zipIdx_cons, List.filterMap_cons]
          simp only [ef]
        · rw [et]
          dsimp only
          rw [ee]
          have en : (h ++ [AO.lst acc])[h.length]? = some (.lst acc) := by simp
          simp only [en]
          rw [if_pos (size_lt (by omega))]
          have es : (h ++ [AO.lst acc]).set h.length (.lst (acc ++ [y])) = h ++ [.lst (acc ++ [y])] := by simp
          rw [es, ih n (i + 1) (acc ++ [y]) (by omega) (by omega) (by omega) (by simp; omega), ed, List.zipIdx_cons, List.filterMap_cons]
          simp only [ef]
          rw [List.append_assoc]; rfl
  have q := key xs.length a.n 0 [] rfl (Nat.zero_le _) (by omega) (Nat.le_refl _)
  rw [List.drop_zero, List.nil_append] at q
  exact q
end AB

/-! AB12: data of any depth: ==, in -/
namespace AB
open PySem PySem.Spec
open PyProof.Rows hiding St
open L2
mutual
def dat : PV → Option PyData
  | .non => some .none
  | .bl b => some (.bool b)
  | .int i => some (.int i)
  | .str x => some (.str x)
  | .tup xs => (dats xs).map .tuple
  | .lst xs => (dats xs).map .list
  | .ro xs => (dats xs).map .list
  | _ => none
termination_by structural x => x
def dats : List PV → Option (List PyData)
  | [] => some []
  | v :: r => match dat v, dats r with
    | some d, some ds => some (d :: ds)
    | _, _ => none
termination_by structural x => x
end
section
variable {K : KW}
mutual
theorem dat_dp {ρ : List Addr} {H : Hp} : ∀ {v : PV} {x : V} {d : PyData}, dat v = some d → RV K ρ H v x → Dp K.fr H x d
  | .non, x, d, e, r => by cases e; rw [r.non_inv]; exact .non
  | .bl b, x, d, e, r => by cases e; rw [r.bl_inv]; exact .bl b
  | .int i, x, d, e, r => by cases e; rw [r.int_inv]; exact .int i
  | .str s, x, d, e, r => by cases e; rw [r.str_inv]; exact .str s
  | .tup xs, x, d, e, r => by
    rw [dat] at e
    obtain ⟨ds, e1, rfl⟩ := Option.map_eq_some_iff.mp e
    obtain ⟨p, vs, rfl, f, q⟩ := r.tup_inv
    exact .tup f.sq (dats_dp e1 q)
  | .lst xs, x, d, e, r => by
    rw [dat] at e
    obtain ⟨ds, e1, rfl⟩ := Option.map_eq_some_iff.mp e
    obtain ⟨p, vs, rfl, f, q⟩ := r.lst_inv
    exact .lst f.sq (dats_dp e1 q)
  | .ro xs, x, d, e, r => by
    rw [dat] at e
    obtain ⟨ds, e1, rfl⟩ := Option.map_eq_some_iff.mp e
    obtain ⟨p, vs, rfl, f, q⟩ := r.ro_inv
    exact .lst f.sq (dats_dp e1 q)
  | .loc n, x, d, e, r => by cases e
  | .raw v, x, d, e, r => by cases e
theorem dats_dp {ρ : List Addr} {H : Hp} : ∀ {xs : List PV} {vs : List V} {ds : List PyData}, dats xs = some ds → RVs K ρ H xs vs → DpAll K.fr H vs ds
  | [], vs, ds, e, r => by cases e; rw [r.nil_inv]; exact .nil
  | x :: xs, vs, ds, e, r => by
    rw [dats] at e
    split at e
    · rename_i d ds' e1 e2
      cases e
      obtain ⟨v, vs', rfl, q, s⟩ := r.cons_inv
      exact .cons (dat_dp e1 q) (dats_dp e2 s)
    · cases e
end
end
section
variable {X : Cx}
def rInDT (K : PySem.W.Frag) : R2 := fun x y H Q => ∃ d ds, Dp K H x d ∧ (Dp K H y (.list ds) ∨ Dp K H y (.tuple ds)) ∧ SeqAt.shaped d = true ∧ SeqAt.shaped (.list ds) = true ∧ SeqAt.shaped (.tuple ds) = true ∧ Q (.bl (ds.any fun z => PyData.eqv z d)) H
theorem op_inDT (hu : X.A.units + 65 < cLine) : OpR X (compareOp .In) (rInDT X.K) := by
  intro pins s σ H x y v u Q I rx ry h
  obtain ⟨d, ds, hd, he, sd, se, st, q⟩ := h
  obtain ⟨as, r1⟩ := Dp.reads I d x v hd rx
  rcases he with he | he
  · obtain ⟨bs, r2⟩ := Dp.reads I (.list ds) y u he ry
    exact SeqAt.in_list_reads r2 r1 (SeqAt.canLay_of_shaped se) (SeqAt.canLay_of_shaped sd) (room_in_shaped sd hu) ⟨.bl _, H, I, rfl, q⟩
  · obtain ⟨bs, r2⟩ := Dp.reads I (.tuple ds) y u he ry
    exact SeqAt.in_tuple_reads r2 r1 (SeqAt.canLay_of_shaped st) (SeqAt.canLay_of_shaped sd) (room_in_shaped sd hu) ⟨.bl _, H, I, rfl, q⟩
end
/-- in, of data of any depth -/
def fInD : F2 := fun v u h => match dat v, (seqOf u h).bind dats with
  | some d, some ds => if SeqAt.shaped d = true ∧ SeqAt.shaped (.list ds) = true ∧ SeqAt.shaped (.tuple ds) = true then .ok (.bl (ds.any fun z => PyData.eqv z d)) h else .stuck
  | _, _ => .stuck
section
variable {X : Cx}
theorem seq_dp {K : KW} {ρ : List Addr} {h : AH} {H : Hp} {u : PV} {y : V} {ds : List PyData} (R : Rep K ρ h H) (r : RV K ρ H u y) (e : (seqOf u h).bind dats = some ds) : Dp K.fr H y (.list ds) ∨ Dp K.fr H y (.tuple ds) := by
  obtain ⟨xs, e1, e2⟩ := Option.bind_eq_some_iff.mp e
  obtain ⟨p, vs, rfl, s, q⟩ := seq_of R r e1
  rcases s with s | s
  · exact .inl (.lst s (dats_dp e2 q))
  · exact .inr (.tup s (dats_dp e2 q))
theorem j_inD (hu : X.A.units + 65 < cLine) : JOp X (compareOp .In) fInD := jop (op_inDT hu) fun ρ h H τ W x y v u Q R r1 r2 o => by
  unfold fInD at o
  split at o
  · rename_i d ds e1 e2
    split at o
    · rename_i c
      exact ⟨d, ds, dat_dp e1 r1, seq_dp R r2 e2, c.1, c.2.1, c.2.2, Out.done o R (.bl _)⟩
    · exact o.elim
  · exact o.elim
end
def fNinD : F2 := fun v u h => (fInD v u h).bind fun r h1 => match r with
  | .bl b => .ok (.bl (!b)) h1
  | _ => .stuck
def fEqD : F2 := fun v u h => match dat v, dat u with
  | some d, some e => if SeqAt.shaped d = true ∧ SeqAt.shaped e = true then .ok (.bl (PyData.eqv d e)) h else .stuck
  | _, _ => .stuck
def fNeD : F2 := fun v u h => match dat v, dat u with
  | some d, some e => if SeqAt.shaped d = true ∧ SeqAt.shaped e = true then .ok (.bl (!PyData.eqv d e)) h else .stuck
  | _, _ => .stuck
section
variable {X : Cx}
theorem j_eqD (hu : X.A.units + 65 < cLine) : JOp X (compareOp .Eq) fEqD := jop (op_eqD (by omega)) fun ρ h H τ W x y v u Q R r1 r2 o => by
  unfold fEqD at o
  split at o
  · rename_i d e e1 e2
    split at o
    · rename_i c
      exact ⟨d, e, dat_dp e1 r1, dat_dp e2 r2, c.1, c.2, Out.done o R (.bl _)⟩
    · exact o.elim
  · exact o.elim
theorem j_neD (hu : X.A.units + 65 < cLine) : JOp X (compareOp .NotEq) fNeD := jop (op_neD (by omega)) fun ρ h H τ W x y v u Q R r1 r2 o => by
  unfold fNeD at o
  split at o
  · rename_i d e e1 e2
    split at o
    · rename_i c
      exact ⟨d, e, dat_dp e1 r1, dat_dp e2 r2, c.1, c.2, Out.done o R (.bl _)⟩
    · exact o.elim
  · exact o.elim
end
end AB

/-! MT: what the operators and functions of mirrors give at ints and texts -/
namespace AB
open PySem PySem.Spec
open PyProof.Rows hiding St
open L2
@[simp] theorem liftS_ok' {α : Type} (a : α) (h : AH) (σ : ASt) (f : α → AH → SRes) : liftS (.ok a h) σ f = f a h := rfl
@[simp] theorem fSub_i (i j : Int) (h : AH) : fSub (.int i) (.int j) h = .ok (.int (i - j)) h := rfl
@[simp] theorem fAdd_i (i j : Int) (h : AH) : fAdd (.int i) (.int j) h = .ok (.int (i + j)) h := rfl
@[simp] theorem fLt_i (i j : Int) (h : AH) : fLt (.int i) (.int j) h = .ok (.bl (decide (i < j))) h := rfl
@[simp] theorem fLe_i (i j : Int) (h : AH) : fLe (.int i) (.int j) h = .ok (.bl (decide (i ≤ j))) h := rfl
@[simp] theorem fGt_i (i j : Int) (h : AH) : fGt (.int i) (.int j) h = .ok (.bl (decide (j < i))) h := rfl
@[simp] theorem fGe_i (i j : Int) (h : AH) : fGe (.int i) (.int j) h = .ok (.bl (decide (j ≤ i))) h := rfl
theorem fMod_i {i j : Int} (hj : 0 < j) (h : AH) : fMod (.int i) (.int j) h = .ok (.int (i % j)) h := by
  show (if bPos i j = true then _ else _) = _
  rw [if_pos (by simp [bPos, hj])]
theorem fFdiv_i {i j : Int} (hj : 0 < j) (hz : j < 1073741824) (h : AH) : fFdiv (.int i) (.int j) h = .ok (.int (i / j)) h := by
  show (if bDiv i j = true then _ else _) = _
  rw [if_pos (by simp [bDiv, hj, hz])]
theorem fMul_i {i j : Int} (hj : -(2 ^ 64) < j) (hz : j < 2 ^ 64) (h : AH) : fMul (.int i) (.int j) h = .ok (.int (i * j)) h := by
  show (if bMul i j = true then _ else _) = _
  rw [if_pos (by simp only [bMul, Bool.or_eq_true, Bool.and_eq_true, decide_eq_true_eq]; exact .inr ⟨hj, hz⟩)]
@[simp] theorem fnInt_i (i : Int) (h : AH) : fnInt [.int i] h = .ok (.int i) h := rfl
@[simp] theorem fnInt_b (k : Bool) (h : AH) : fnInt [.bl k] h = .ok (.int (if k then 1 else 0)) h := rfl
@[simp] theorem fEq_i (i j : Int) (h : AH) : fEq (.int i) (.int j) h = .ok (.bl (decide (i = j))) h := by
  have q : scal (V.int i) (V.int j) = true := rfl
  simp [fEq, flat, q]
@[simp] theorem fNe_i (i j : Int) (h : AH) : fNe (.int i) (.int j) h = .ok (.bl (!decide (i = j))) h := by
  have q : scal (V.int i) (V.int j) = true := rfl
  simp [fNe, flat, q]
@[simp] theorem fEq_s (i j : Str) (h : AH) : fEq (.str i) (.str j) h = .ok (.bl (decide (i = j))) h := by
  have q : scal (V.str i) (V.str j) = true := rfl
  simp [fEq, flat, q]
@[simp] theorem fNe_s (i j : Str) (h : AH) : fNe (.str i) (.str j) h = .ok (.bl (!decide (i = j))) h := by
  have q : scal (V.str i) (V.str j) = true := rfl
  simp [fNe, flat, q]
@[simp] theorem fEq_b (i j : Bool) (h : AH) : fEq (.bl i) (.bl j) h = .ok (.bl (decide (i = j))) h := by
  have q : scal (V.bl i) (V.bl j) = true := rfl
  simp [fEq, flat, q]
@[simp] theorem fNe_b (i j : Bool) (h : AH) : fNe (.bl i) (.bl j) h = .ok (.bl (!decide (i = j))) h := by
  have q : scal (V.bl i) (V.bl j) = true := rfl
  simp [fNe, flat, q]
theorem flats_ints : ∀ ns : List Int, flats (ns.map PV.int) = some (ns.map V.int)
  | [] => rfl
  | n :: ns => by rw [List.map_cons, flats, flats_ints ns]; rfl
theorem inV_ints (i : Int) (ns : List Int) : inV (.int i) (ns.map V.int) = decide (i ∈ ns) := by
  unfold inV
  induction ns with
  | nil => simp
  | cons n ns ih =>
    have q : eqV (.int n) (.int i) = decide (i = n) := by rw [show eqV (V.int n) (V.int i) = decide (n = i) from rfl]; exact decide_eq_decide.mpr eq_comm
    rw [List.map_cons, List.any_cons, ih, q]
    simp
theorem fIn_i {i : Int} {u : PV} {ns : List Int} {h : AH} (e : seqOf u h = some (ns.map PV.int)) : fIn (.int i) u h = .ok (.bl (decide (i ∈ ns))) h := by
  unfold fIn
  rw [e]
  show (match flats (ns.map PV.int) with | some zs => Res.ok (PV.bl (inV (.int i) zs)) h | none => .stuck) = _
  rw [flats_ints]
  simp only [inV_ints]
theorem fNin_i {i : Int} {u : PV} {ns : List Int} {h : AH} (e : seqOf u h = some (ns.map PV.int)) : fNin (.int i) u h = .ok (.bl (!decide (i ∈ ns))) h := by
  unfold fNin
  rw [e]
  show (match flats (ns.map PV.int) with | some zs => Res.ok (PV.bl (!inV (.int i) zs)) h | none => .stuck) = _
  rw [flats_ints]
  simp only [inV_ints]
theorem fnSum_i {u : PV} {ns : List Int} {h : AH} (e : lstOf u h = some (ns.map PV.int)) : fnSum [u] h = .ok (.int ns.sum) h := by
  unfold fnSum
  simp only [e, Option.bind_some, intsOf_map]
theorem fnTuple_s {u : PV} {xs : List PV} {h : AH} (e : seqOf u h = some xs) : fnTuple [u] h = .ok (.tup xs) h := by
  unfold fnTuple
  simp only [e]
theorem mAppend_ok {n : Nat} {xs : List PV} {y : PV} {h : AH} (e : h[n]? = some (.lst xs)) (hz : xs.length < 1000000) : mAppend (.loc n) [y] h = .ok .non (h.set n (.lst (xs ++ [y]))) := by
  unfold mAppend
  simp only [e]
  rw [if_pos (size_lt (by omega))]; rfl
theorem fAdd_s {x y : Str} {h : AH} (hz : x.length + y.length ≤ 1000000) : fAdd (.str x) (.str y) h = .ok (.str (x ++ y)) h := by
  show (if x.length + y.length ≤ sizeLine then _ else _) = _
  rw [if_pos (size_ok hz)]
theorem fAdd_t {x y : List PV} {h : AH} (hz : x.length + y.length ≤ 1000000) : fAdd (.tup x) (.tup y) h = .ok (.tup (x ++ y)) h := by
  show (if x.length + y.length ≤ sizeLine then _ else _) = _
  rw [if_pos (size_ok hz)]
theorem set_app {α : Type} {h g : List α} {n : Nat} {o : α} (hn : n < h.length) : (h ++ g).set n o = h.set n o ++ g := List.set_append_left _ _ hn
theorem isL_loc {n : Nat} {xs : List PV} {h : AH} (e : h[n]? = some (.lst xs)) : isL (.loc n) h = true := by
  unfold isL; rw [lstOf_loc e]; rfl
theorem aItS_tup (m : AE) (σ : ASt) (h h1 : AH) (xs : List PV) (e : m σ h = .ok (.tup xs) h1) : aItS m σ h = .ok (itVals xs) h1 := by
  unfold aItS; rw [e]; rfl
theorem aItS_lst (m : AE) (σ : ASt) (h h1 : AH) (xs : List PV) (e : m σ h = .ok (.lst xs) h1) : ∃ a, aItS m σ h = .ok a h1 ∧ a.n = xs.length ∧ ∀ i g, a.nxt i g = some xs[i]? := by
  unfold aItS; rw [e]
  exact ⟨_, rfl, rfl, fun _ _ => rfl⟩
end AB

/-! MG: places joined by lines; homes; the places reached -/
namespace MG
inductive Cn (E : List (Nat × Nat)) : Nat → Nat → Prop
  | rf (a : Nat) : Cn E a a
  | fw {a b c : Nat} : Cn E a b → (b, c) ∈ E → Cn E a c
  | bw {a b c : Nat} : Cn E a b → (c, b) ∈ E → Cn E a c
theorem Cn.tr {E : List (Nat × Nat)} {a b c : Nat} (x : Cn E a b) (y : Cn E b c) : Cn E a c := by
  induction y with
  | rf => exact x
  | fw _ m ih => exact .fw ih m
  | bw _ m ih => exact .bw ih m
theorem Cn.sm {E : List (Nat × Nat)} {a b : Nat} (x : Cn E a b) : Cn E b a := by
  induction x with
  | rf => exact .rf _
  | fw _ m ih => exact (Cn.bw (.rf _) m).tr ih
  | bw _ m ih => exact (Cn.fw (.rf _) m).tr ih
theorem Cn.mono {E F : List (Nat × Nat)} (s : ∀ e ∈ E, e ∈ F) {a b : Nat} (x : Cn E a b) : Cn F a b := by
  induction x with
  | rf => exact .rf _
  | fw _ m ih => exact .fw ih (s _ m)
  | bw _ m ih => exact .bw ih (s _ m)
/-- what agrees along each line agrees along a way -/
theorem Cn.agree {E : List (Nat × Nat)} {α : Type} (f : Nat → α) (s : ∀ e ∈ E, f e.1 = f e.2) {a b : Nat} (x : Cn E a b) : f a = f b := by
  induction x with
  | rf => rfl
  | fw _ m ih => exact ih.trans (s _ m)
  | bw _ m ih => exact ih.trans (s _ m).symm
def mergeF (hs : List Nat) (a b : Nat) : List Nat := if hs.getD a 0 = hs.getD b 0 then hs else hs.map fun s => if s = hs.getD b 0 then hs.getD a 0 else s
def homesF (n : Nat) (E : List (Nat × Nat)) : List Nat := E.foldl (fun hs e => mergeF hs e.1 e.2) (List.range n)
theorem mergeF_len (hs : List Nat) (a b : Nat) : (mergeF hs a b).length = hs.length := by unfold mergeF; split <;> simp
theorem mergeF_get {hs : List Nat} {a b p : Nat} (hp : p < hs.length) (ne : hs.getD a 0 ≠ hs.getD b 0) : (mergeF hs a b).getD p 0 = if hs.getD p 0 = hs.getD b 0 then hs.getD a 0 else hs.getD p 0 := by
  unfold mergeF
  rw [if_neg ne]
  simp only [List.getD_eq_getElem?_getD, List.getElem?_map]
  rw [List.getElem?_eq_getElem hp]
  rfl
structure HInv (n : Nat) (E : List (Nat × Nat)) (hs : List Nat) : Prop where
  len : hs.length = n
  one : ∀ e ∈ E, hs.getD e.1 0 = hs.getD e.2 0
  two : ∀ a b, a < n → b < n → hs.getD a 0 = hs.getD b 0 → Cn E a b
theorem HInv.step {n : Nat} {E : List (Nat × Nat)} {hs : List Nat} (i : HInv n E hs) (lt : ∀ e ∈ E, e.1 < n ∧ e.2 < n) {a b : Nat} (ha : a < n) (hb : b < n) : HInv n (E ++ [(a, b)]) (mergeF hs a b) := by
  by_cases c : hs.getD a 0 = hs.getD b 0
  · have e : mergeF hs a b = hs := by unfold mergeF; rw [if_pos c]
    rw [e]
    refine ⟨i.len, fun e he => ?_, fun p q hp hq h => (i.two p q hp hq h).mono fun e he => List.mem_append_left _ he⟩
    rcases List.mem_append.mp he with he | he
    · exact i.one e he
    · rw [List.mem_singleton] at he; subst he; exact c
  · have g : ∀ p, p < n → (mergeF hs a b).getD p 0 = if hs.getD p 0 = hs.getD b 0 then hs.getD a 0 else hs.getD p 0 := fun p hp => mergeF_get (by rw [i.len]; exact hp) c
    refine ⟨by rw [mergeF_len, i.len], fun e he => ?_, fun p q hp hq h => ?_⟩
    · rcases List.mem_append.mp he with he | he
      · rw [g _ (lt e he).1, g _ (lt e he).2, i.one e he]
      · rw [List.mem_singleton] at he; subst he
        rw [g a ha, g b hb, if_pos rfl]
        split <;> rfl
    · rw [g p hp, g q hq] at h
      have up : ∀ {x y}, Cn E x y → Cn (E ++ [(a, b)]) x y := fun k => k.mono fun e he => List.mem_append_left _ he
      have ab : Cn (E ++ [(a, b)]) a b := .fw (.rf _) (List.mem_append_right _ (List.mem_singleton.mpr rfl))
      split at h
      · rename_i h1
        split at h
        · rename_i h2; exact up (i.two p q hp hq (h1.trans h2.symm))
        · exact (up (i.two p b hp hb h1)).tr (ab.sm.tr (up (i.two a q ha hq h)))
      · split at h
        · rename_i h2; exact (up (i.two p a hp ha h)).tr (ab.tr (up (i.two b q hb hq h2.symm)))
        · exact up (i.two p q hp hq h)
theorem HInv.fold {n : Nat} : ∀ (F E : List (Nat × Nat)) (hs : List Nat), HInv n E hs → (∀ e ∈ E ++ F, e.1 < n ∧ e.2 < n) → HInv n (E ++ F) (F.foldl (fun hs e => mergeF hs e.1 e.2) hs)
  | [], E, hs, i, _ => by rw [List.append_nil]; exact i
  | (a, b) :: F, E, hs, i, lt => by
    have q := HInv.fold F (E ++ [(a, b)]) (mergeF hs a b) (i.step (fun e he => lt e (List.mem_append_left _ he)) (lt (a, b) (by simp)).1 (lt (a, b) (by simp)).2) (by rw [List.append_assoc]; exact lt)
    rw [List.append_assoc] at q
    exact q
theorem homesF_inv {n : Nat} {E : List (Nat × Nat)} (lt : ∀ e ∈ E, e.1 < n ∧ e.2 < n) : HInv n E (homesF n E) := by
  have := HInv.fold (n := n) E [] (List.range n) ⟨by simp, by simp, fun a b ha hb h => by
    have e1 : (List.range n).getD a 0 = a := by simp [ha]
    have e2 : (List.range n).getD b 0 = b := by simp [hb]
    rw [e1, e2] at h
    subst h; exact .rf _⟩ (by simpa using lt)
  rw [List.nil_append] at this
  exact this
/-- reached from s: what is closed and joined -/
structure Rch (n : Nat) (E : List (Nat × Nat)) (s : Nat) (t : List Nat) : Prop where
  st : s ∈ t
  cl : ∀ e ∈ E, (e.1 ∈ t → e.2 ∈ t) ∧ (e.2 ∈ t → e.1 ∈ t)
  jn : ∀ p ∈ t, Cn E s p
theorem Rch.iff {n : Nat} {E : List (Nat × Nat)} {s : Nat} {t : List Nat} (r : Rch n E s t) (p : Nat) : p ∈ t ↔ Cn E s p := by
  refine ⟨r.jn p, fun h => ?_⟩
  induction h with
  | rf => exact r.st
  | fw _ m ih => exact (r.cl _ m).1 ih
  | bw _ m ih => exact (r.cl _ m).2 ih
theorem home_near {n : Nat} {E : List (Nat × Nat)} (lt : ∀ e ∈ E, e.1 < n ∧ e.2 < n) {t : List Nat} (r : Rch n E 0 t) {p : Nat} (hp : p < n) : (homesF n E).getD p 0 = (homesF n E).getD 0 0 ↔ p ∈ t := by
  have i := homesF_inv lt
  rw [r.iff]
  constructor
  · intro h; exact (i.two p 0 hp (by omega) h).sm
  · intro h; exact (h.agree (fun q => (homesF n E).getD q 0) i.one).symm
end MG

/-! MP: the tape -/
namespace AB
open PySem PySem.Spec
open PyProof.Rows hiding St
open L2
theorem gSubL_ok {ao ai : AE} {x : PV} {σ : ASt} {h : AH} {n : Nat} {k : Int} {xs : List PV} (e1 : ao σ h = .ok (.loc n) h) (e2 : ai σ h = .ok (.int k) h) (e3 : h[n]? = some (.lst xs)) (h0 : 0 ≤ k) (h1 : k < xs.length) :
    gSubL ao ai x σ h = some (σ, h.set n (.lst (xs.set k.toNat x))) := by
  unfold gSubL
  simp only [e1, e2, e3]
  rw [ixN_of h0 h1]
def TpV (p m : Int) : AO := .lst [.loc 0, .int p, .int m]
def Tp (h : AH) : Prop := ∃ (ns : List Int) (p m : Int), h[0]? = some (.lst (ns.map .int)) ∧ h[2]? = some (TpV p m) ∧ 0 ≤ p
def Mv (h h' : AH) : Prop := ∃ p m, h' = h.set 2 (TpV p m) ∧ 0 ≤ p
theorem Tp.lt {h : AH} (t : Tp h) : 2 < h.length := by
  obtain ⟨_, _, _, _, e, _⟩ := t
  exact (List.getElem?_eq_some_iff.mp e).1
theorem Tp.mv {h h' : AH} (t : Tp h) (m : Mv h h') : Tp h' := by
  have l := t.lt
  obtain ⟨ns, p, q, e0, e2, hp⟩ := t
  obtain ⟨p', q', rfl, hp'⟩ := m
  refine ⟨ns, p', q', ?_, ?_, hp'⟩
  · rw [List.getElem?_set]; simp [e0]
  · rw [List.getElem?_set]; simp [l]
theorem Tp.rf {h : AH} (t : Tp h) : Mv h h := by
  obtain ⟨ns, p, q, e0, e2, hp⟩ := t
  refine ⟨p, q, ?_, hp⟩
  obtain ⟨l, e⟩ := List.getElem?_eq_some_iff.mp e2
  rw [← e]; simp
theorem Mv.tr {a b c : AH} (x : Mv a b) (y : Mv b c) : Mv a c := by
  obtain ⟨p, q, rfl, _⟩ := x
  obtain ⟨p', q', rfl, hp⟩ := y
  exact ⟨p', q', by rw [List.set_set], hp⟩
theorem Mv.len {h h' : AH} (m : Mv h h') : h'.length = h.length := by
  obtain ⟨p, q, rfl, _⟩ := m; simp
theorem Tp.app {h : AH} (t : Tp h) (g : AH) : Tp (h ++ g) := by
  have l := t.lt
  obtain ⟨ns, p, q, e0, e2, hp⟩ := t
  exact ⟨ns, p, q, by rw [List.getElem?_append_left (by omega)]; exact e0, by rw [List.getElem?_append_left l]; exact e2, hp⟩
theorem Tp.split {h g h' : AH} (t : Tp h) (m : Mv (h ++ g) h') : ∃ h1, h' = h1 ++ g ∧ Mv h h1 := by
  obtain ⟨p, q, rfl, hp⟩ := m
  exact ⟨h.set 2 (TpV p q), by rw [List.set_append_left _ _ t.lt], p, q, rfl, hp⟩
theorem finC_mv {h h1 g : AH} {v v' : PV} (t : Tp h) (m : Mv h h1) (hv : frz h.length (h1 ++ g) v = some v') : finC h.length h (h1 ++ g) v = .ok v' h1 := by
  have l := t.lt
  have e := m.len
  obtain ⟨p, q, rfl, hp⟩ := m
  rw [finC_ok (fun n hn => ?_) hv]
  · rw [← e, List.take_left]
  · rw [List.getElem?_append_left (by omega), List.getElem?_set]
    by_cases c : 2 = n
    · subst c
      rw [if_pos rfl, if_pos l]
      exact .inr ⟨_, rfl, by simp [TpV, AO.low, PV.lows, PV.low]; omega⟩
    · rw [if_neg c]; exact .inl rfl
theorem finC_mv0 {h h1 : AH} {v : PV} (t : Tp h) (m : Mv h h1) (hv : v.low h.length = true) : finC h.length h h1 v = .ok v h1 := by
  have := finC_mv (g := []) (v := v) (v' := v) t m (by rw [List.append_nil]; exact frz_below hv)
  rwa [List.append_nil] at this
abbrev nI : Nat → PV := fun n => .int n
theorem nI_map (ks : List Nat) : ks.map nI = (ks.map fun n : Nat => (n : Int)).map PV.int := by rw [List.map_map]; rfl
theorem nI_get {ks : List Nat} {i : Nat} {x : Nat} (e : ks[i]? = some x) : atI (ks.map nI) (i : Int) = some (.int x) := atI_nat (by rw [List.getElem?_map, e]; rfl)
theorem low_nI (k : Nat) (ks : List Nat) : PV.lows k (ks.map nI) = true := by rw [nI_map]; exact low_ints _ _
theorem for_rc {g : AG} {b : AS} (lo c : Int) (n : Nat) (I : Nat → ASt → AH → Prop) {σ : ASt} {h : AH} (h0 : I 0 σ h)
    (step : ∀ i σ h, i < n → I i σ h → ∃ σ1 h1 σ2 h2, g (.int (lo + (i : Nat) * c)) σ h = some (σ1, h1) ∧ b σ1 h1 = .fin .nx σ2 h2 ∧ I (i + 1) σ2 h2) :
    ∃ σ' h', forA (itRc lo c n) g b n 0 σ h = .fin .nx σ' h' ∧ I n σ' h' := by
  have ln : ((List.range n).map fun i => PV.int (lo + (i : Nat) * c)).length = n := by simp
  have q := forA_rule (a := itRc lo c n) (g := g) (b := b) ((List.range n).map fun i => PV.int (lo + (i : Nat) * c)) I (fun r => ∃ σ' h', r = .fin .nx σ' h' ∧ I n σ' h') (by rw [ln]; exact Nat.le_refl _) (fun i σ h hi _ => by
      show (if i < n then some (some (PV.int (lo + i * c))) else some none) = _
      by_cases d : i < n
      · rw [if_pos d]; simp [d]
      · rw [if_neg d]; simp [d])
    (fun i x σ h ex hI => by
      have hi : i < n := by have := (List.getElem?_eq_some_iff.mp ex).1; rwa [ln] at this
      obtain ⟨σ1, h1, σ2, h2, e1, e2, e3⟩ := step i σ h hi hI
      have : x = .int (lo + (i : Nat) * c) := by simp [hi] at ex; exact ex.symm
      subst this
      exact ⟨σ1, h1, e1, .inl ⟨σ2, h2, .inl e2, e3⟩⟩) (fun σ h hI => ⟨σ, h, rfl, by rw [ln] at hI; exact hI⟩) h0
  exact q
theorem rgP0 (n : Nat) : rgP 0 (n : Int) = (List.range n).map nI := by
  unfold rgP
  have e : ((n : Int) - 0).toNat = n := by omega
  rw [e]
  refine List.map_congr_left fun i _ => ?_
  show PV.int (0 + (i : Int)) = .int i
  rw [Int.zero_add]
theorem bRg0 {n : Nat} (hn : n ≤ 1000000) : bRg 0 (n : Int) = true := by
  unfold bRg
  have e := @sizeLine_eq
  simp only [Bool.and_eq_true, decide_eq_true_eq]
  refine ⟨⟨⟨⟨?_, ?_⟩, ?_⟩, ?_⟩, ?_⟩ <;> first | omega | (try rw [sizeLine_eq]; omega)
theorem aItR3_ok {l : AL} {σ : ASt} {h h1 : AH} {i j : Int} (e : l σ h = .ok [.int i, .int j, .int (-1)] h1) (a1 : -1000000 ≤ i) (a2 : i ≤ 1000000) (b1 : -1000000 ≤ j) (b2 : j ≤ 1000000) : aItR3 l σ h = .ok (itRc i (-1) (i - j).toNat) h1 := by
  unfold aItR3
  rw [e]
  have c : (-1 : Int) = -1 ∧ -(2 ^ 62) ≤ i ∧ i < 2 ^ 62 ∧ -(2 ^ 62) ≤ j ∧ j < 2 ^ 62 := by omega
  simp only [Res.bind_ok]
  rw [if_pos ⟨trivial, c.2⟩]
theorem aItR1_ok {l : AL} {σ : ASt} {h h1 : AH} {j : Int} (e : l σ h = .ok [.int j] h1) (b1 : -1000000 ≤ j) (b2 : j ≤ 1000000) : aItR1 l σ h = .ok (itRg 0 j.toNat) h1 := by
  unfold aItR1
  rw [e]
  have c : -(2 ^ 62) ≤ j ∧ j < 2 ^ 62 := by omega
  simp only [Res.bind_ok]
  rw [if_pos c]
theorem aItR2_ok {l : AL} {σ : ASt} {h h1 : AH} {i j : Int} (e : l σ h = .ok [.int i, .int j] h1) (a1 : -1000000 ≤ i) (a2 : i ≤ 1000000) (b1 : -1000000 ≤ j) (b2 : j ≤ 1000000) : aItR2 l σ h = .ok (itRg i (j - i).toNat) h1 := by
  unfold aItR2
  rw [e]
  have c : -(2 ^ 62) ≤ i ∧ i < 2 ^ 62 ∧ -(2 ^ 62) ≤ j ∧ j < 2 ^ 62 := by omega
  simp only [Res.bind_ok]
  rw [if_pos c]
theorem aLstRg1_ok {m : AE} {σ : ASt} {h h1 : AH} {n : Nat} (e : m σ h = .ok (.int n) h1) (hn : n ≤ 1000000) : aLstRg1 m σ h = .ok (.loc h1.length) (h1 ++ [.lst ((List.range n).map nI)]) := by
  unfold aLstRg1
  rw [e, Res.bind_ok, ← rgP0]
  exact if_pos (bRg0 hn)
theorem aTupRg1_ok {m : AE} {σ : ASt} {h h1 : AH} {n : Nat} (e : m σ h = .ok (.int n) h1) (hn : n ≤ 1000000) : aTupRg1 m σ h = .ok (.tup ((List.range n).map nI)) h1 := by
  unfold aTupRg1
  rw [e, Res.bind_ok, ← rgP0]
  exact if_pos (bRg0 hn)
theorem aLc_pure {m : AIt} {a : AI} {vs : List Nat} {g : AG} {t : AT} {e : AE} {σ : ASt} {h h1 : AH} (em : m σ h = .ok a h1) (xs : List PV) (f : Nat → PV → Option PV) (hn : xs.length ≤ a.n) (hz : xs.length < 1000000)
    (hx : ∀ i (acc : List PV), i ≤ xs.length → a.nxt i (h1 ++ [.lst acc]) = some xs[i]?)
    (step : ∀ i x (acc : List PV), xs[i]? = some x → ∃ σ1, g x (wipeA σ vs) (h1 ++ [.lst acc]) = some (σ1, h1 ++ [.lst acc]) ∧
      ((t σ1 (h1 ++ [.lst acc]) = .ok false (h1 ++ [.lst acc]) ∧ f i x = none) ∨ ∃ y, t σ1 (h1 ++ [.lst acc]) = .ok true (h1 ++ [.lst acc]) ∧ e σ1 (h1 ++ [.lst acc]) = .ok y (h1 ++ [.lst acc]) ∧ f i x = some y)) :
    aLc m vs g t e σ h = .ok (.loc h1.length) (h1 ++ [.lst ((xs.zipIdx).filterMap fun p => f p.2 p.1)]) := by
  unfold aLc
  rw [em, Res.bind_ok]
  exact lcA_pure xs f hn hz hx step
theorem zip_map {F : PV → PV} : ∀ (xs : List PV) (k : Nat), ((xs.zipIdx k).filterMap fun p => some (F p.1)) = xs.map F
  | [], _ => rfl
  | x :: xs, k => by
    rw [List.zipIdx_cons, List.filterMap_cons]
    dsimp only
    rw [zip_map xs (k + 1)]; rfl
theorem zip_filter {P : PV → Bool} : ∀ (xs : List PV) (k : Nat), ((xs.zipIdx k).filterMap fun p => if P p.1 = true then some p.1 else none) = xs.filter P
  | [], _ => rfl
  | x :: xs, k => by
    rw [List.zipIdx_cons, List.filterMap_cons, zip_filter xs (k + 1)]
    by_cases c : P x = true <;> simp [c]
theorem aLc_map {m : AIt} {a : AI} {vs : List Nat} {g : AG} {t : AT} {e : AE} {σ : ASt} {h h1 : AH} (em : m σ h = .ok a h1) (xs : List PV) (F : PV → PV) (hn : xs.length ≤ a.n) (hz : xs.length < 1000000)
    (hx : ∀ i (acc : List PV), i ≤ xs.length → a.nxt i (h1 ++ [.lst acc]) = some xs[i]?)
    (step : ∀ x ∈ xs, ∀ (acc : List PV), ∃ σ1, g x (wipeA σ vs) (h1 ++ [.lst acc]) = some (σ1, h1 ++ [.lst acc]) ∧ t σ1 (h1 ++ [.lst acc]) = .ok true (h1 ++ [.lst acc]) ∧ e σ1 (h1 ++ [.lst acc]) = .ok (F x) (h1 ++ [.lst acc])) :
    aLc m vs g t e σ h = .ok (.loc h1.length) (h1 ++ [.lst (xs.map F)]) := by
  rw [aLc_pure em xs (fun _ x => some (F x)) hn hz hx (fun i x acc ex => by
    obtain ⟨σ1, e1, e2, e3⟩ := step x (List.mem_of_getElem? ex) acc
    exact ⟨σ1, e1, .inr ⟨_, e2, e3, rfl⟩⟩), zip_map]
theorem aLc_filter {m : AIt} {a : AI} {vs : List Nat} {g : AG} {t : AT} {e : AE} {σ : ASt} {h h1 : AH} (em : m σ h = .ok a h1) (xs : List PV) (P : PV → Bool) (hn : xs.length ≤ a.n) (hz : xs.length < 1000000)
    (hx : ∀ i (acc : List PV), i ≤ xs.length → a.nxt i (h1 ++ [.lst acc]) = some xs[i]?)
    (step : ∀ x ∈ xs, ∀ (acc : List PV), ∃ σ1, g x (wipeA σ vs) (h1 ++ [.lst acc]) = some (σ1, h1 ++ [.lst acc]) ∧ t σ1 (h1 ++ [.lst acc]) = .ok (P x) (h1 ++ [.lst acc]) ∧ e σ1 (h1 ++ [.lst acc]) = .ok x (h1 ++ [.lst acc])) :
    aLc m vs g t e σ h = .ok (.loc h1.length) (h1 ++ [.lst (xs.filter P)]) := by
  rw [aLc_pure em xs (fun _ x => if P x = true then some x else none) hn hz hx (fun i x acc ex => by
    obtain ⟨σ1, e1, e2, e3⟩ := step x (List.mem_of_getElem? ex) acc
    refine ⟨σ1, e1, ?_⟩
    cases c : P x
    · rw [c] at e2; exact .inl ⟨e2, by simp⟩
    · rw [c] at e2; exact .inr ⟨_, e2, e3, by simp⟩), zip_filter]
/-- a list made item by item, the tape moving -/
theorem aLc_tape {m : AIt} {a : AI} {vs : List Nat} {g : AG} {e : AE} {σ : ASt} {h h1 : AH} (em : m σ h = .ok a h1) (xs : List PV) (I : List PV → AH → Prop) (hn : xs.length ≤ a.n) (hz : xs.length < 1000000)
    (hx : ∀ i (g : AH), i ≤ xs.length → a.nxt i g = some xs[i]?) (h0 : I [] h1) (hl : ∀ acc g, I acc g → g.length = h1.length)
    (step : ∀ x ∈ xs, ∀ (acc : List PV) (h2 : AH), I acc h2 → acc.length < xs.length → ∃ σ1 y h3, g x (wipeA σ vs) (h2 ++ [.lst acc]) = some (σ1, h2 ++ [.lst acc]) ∧ e σ1 (h2 ++ [.lst acc]) = .ok y (h3 ++ [.lst acc]) ∧ I (acc ++ [y]) h3) :
    ∃ acc h3, aLc m vs g tYes' e σ h = .ok (.loc h1.length) (h3 ++ [.lst acc]) ∧ I acc h3 ∧ acc.length = xs.length := by
  unfold aLc
  rw [em, Res.bind_ok]
  have key : ∀ (k n i : Nat) (acc : List PV) (h2 : AH), k = xs.length - i → i ≤ xs.length → xs.length ≤ n + i → acc.length = i → I acc h2 →
      ∃ acc' h3, lcA a vs g tYes' e σ h1.length n i (h2 ++ [.lst acc]) = .ok (.loc h1.length) (h3 ++ [.lst acc']) ∧ I acc' h3 ∧ acc'.length = xs.length := by
    intro k
    induction k with
    | zero =>
      intro n i acc h2 hk hi hni ha hI
      have ei : i = xs.length := by omega
      refine ⟨acc, h2, ?_, hI, by omega⟩
      unfold lcA
      rw [hx i _ hi, List.getElem?_eq_none (by omega)]
    | succ k ih =>
      intro n i acc h2 hk hi hni ha hI
      have hlt : i < xs.length := by omega
      have ex : xs[i]? = some xs[i] := by simp [hlt]
      obtain ⟨σ1, y, h3, e1, e3, hI3⟩ := step xs[i] (List.getElem_mem hlt) acc h2 hI (by omega)
      unfold lcA
      rw [hx i _ hi, ex]
      cases n with
      | zero => omega
      | succ n =>
        simp only [e1, tYes'_eq, e3]
        have l3 := hl _ _ hI3
        have en : (h3 ++ [AO.lst acc])[h1.length]? = some (.lst acc) := by rw [← l3]; simp
        simp only [en]
        rw [if_pos (size_lt (by omega))]
        have es : (h3 ++ [AO.lst acc]).set h1.length (.lst (acc ++ [y])) = h3 ++ [.lst (acc ++ [y])] := by rw [← l3]; simp
        rw [es]
        exact ih n (i + 1) (acc ++ [y]) h3 (by omega) (by omega) (by omega) (by simp; omega) hI3
  exact key xs.length a.n 0 [] h1 rfl (Nat.zero_le _) (by omega) rfl h0
theorem aCall_ok {n : Nat} {m : FN} {l : AL} {σ : ASt} {h h1 : AH} {xs : List PV} {r : Res PV} (el : l σ h = .ok xs h1) (hn : xs.length = n) (em : m xs h1 = r) : aCall n m l σ h = r := by
  unfold aCall; rw [el, Res.bind_ok, if_pos hn, em]
theorem aFn_ok {f : FN} {l : AL} {σ : ASt} {h h1 : AH} {xs : List PV} {r : Res PV} (el : l σ h = .ok xs h1) (em : f xs h1 = r) : aFn f l σ h = r := by
  unfold aFn; rw [el, Res.bind_ok, em]
theorem aOp_ok {f : F2} {a b : AE} {σ : ASt} {h h1 h2 : AH} {x y : PV} {r : Res PV} (ea : a σ h = .ok x h1) (eb : b σ h1 = .ok y h2) (ef : f x y h2 = r) : aOp f a b σ h = r := by
  unfold aOp; rw [ea, Res.bind_ok, eb, Res.bind_ok, ef]
theorem aCons_ok {a : AE} {l : AL} {σ : ASt} {h h1 h2 : AH} {x : PV} {xs : List PV} (ea : a σ h = .ok x h1) (el : l σ h1 = .ok xs h2) : aCons a l σ h = .ok (x :: xs) h2 := by
  unfold aCons; rw [ea, Res.bind_ok, el, Res.bind_ok]
theorem aTup_ok {l : AL} {σ : ASt} {h h1 : AH} {xs : List PV} (el : l σ h = .ok xs h1) (hz : xs.length ≤ 1000000) : aTup l σ h = .ok (.tup xs) h1 := by
  unfold aTup; rw [el, Res.bind_ok, if_pos (size_ok hz)]
theorem aLst_ok {l : AL} {σ : ASt} {h h1 : AH} {xs : List PV} (el : l σ h = .ok xs h1) (hz : xs.length ≤ 1000000) : aLst l σ h = .ok (.loc h1.length) (h1 ++ [.lst xs]) := by
  unfold aLst; rw [el, Res.bind_ok, if_pos (size_ok hz)]; rfl
theorem aB_ok {m : AE} {σ : ASt} {h h1 : AH} {b : Bool} (e : m σ h = .ok (.bl b) h1) : aB m σ h = .ok b h1 := by
  unfold aB; rw [e, Res.bind_ok]
theorem aTr_ok {m : AE} {σ : ASt} {h h1 : AH} {b : Bool} (e : m σ h = .ok (.bl b) h1) : aTr m σ h = .ok b h1 := by
  unfold aTr; rw [e, Res.bind_ok]; rfl
theorem tNot_ok {m : AT} {σ : ASt} {h h1 : AH} {b : Bool} (e : m σ h = .ok b h1) : tNot m σ h = .ok (!b) h1 := by
  unfold tNot; rw [e, Res.bind_ok]
theorem aIf_t {c : AT} {a b : AE} {σ : ASt} {h h1 : AH} (e : c σ h = .ok true h1) : aIf c a b σ h = a σ h1 := by
  unfold aIf; rw [e, Res.bind_ok, if_pos rfl]
theorem aIf_f {c : AT} {a b : AE} {σ : ASt} {h h1 : AH} (e : c σ h = .ok false h1) : aIf c a b σ h = b σ h1 := by
  unfold aIf; rw [e, Res.bind_ok, if_neg (by decide)]
theorem aM_ok {ty : PV → AH → Bool} {f : FM} {o : AE} {l : AL} {σ : ASt} {h h1 h2 : AH} {x : PV} {xs : List PV} {r : Res PV} (eo : o σ h = .ok x h1) (et : ty x h1 = true) (el : l σ h1 = .ok xs h2) (em : f x xs h2 = r) : aM ty f o l σ h = r := by
  unfold aM; rw [eo, Res.bind_ok, if_pos et, el, Res.bind_ok, em]
theorem sSet_ok {i : Nat} {m : AE} {σ : ASt} {h h1 : AH} {v : PV} (e : m σ h = .ok v h1) : sSet i m σ h = .fin .nx (σ.set i (some v)) h1 := by
  unfold sSet; rw [e]; rfl
theorem sExpr_ok {m : AE} {σ : ASt} {h h1 : AH} {v : PV} (e : m σ h = .ok v h1) : sExpr m σ h = .fin .nx σ h1 := by
  unfold sExpr; rw [e]; rfl
theorem sRet_ok {m : AE} {σ : ASt} {h h1 : AH} {v : PV} (e : m σ h = .ok v h1) : sRet m σ h = .fin (.rt v) σ h1 := by
  unfold sRet; rw [e]; rfl
theorem sAsg_ok {m : AE} {g : AG} {σ σ2 : ASt} {h h1 h2 : AH} {v : PV} (e : m σ h = .ok v h1) (eg : g v σ h1 = some (σ2, h2)) : sAsg m g σ h = .fin .nx σ2 h2 := by
  unfold sAsg; rw [e, liftS_ok', eg]
theorem sIf_t {c : AT} {a b : AS} {σ : ASt} {h h1 : AH} (e : c σ h = .ok true h1) : sIf c a b σ h = a σ h1 := by
  unfold sIf; rw [e, liftS_ok', if_pos rfl]
theorem sIf_f {c : AT} {a b : AS} {σ : ASt} {h h1 : AH} (e : c σ h = .ok false h1) : sIf c a b σ h = b σ h1 := by
  unfold sIf; rw [e, liftS_ok', if_neg (by decide)]
theorem sFor_ok {m : AIt} {g : AG} {b : AS} {σ : ASt} {h h1 : AH} {a : AI} {r : SRes} (e : m σ h = .ok a h1) (ef : forA a g b a.n 0 σ h1 = r) : sFor m g b σ h = r := by
  unfold sFor; rw [e, liftS_ok', ef]
theorem sPar_ok {i j : Nat} {l : AL} {σ : ASt} {h h1 : AH} {x y : PV} (e : l σ h = .ok [x, y] h1) : sPar i j l σ h = .fin .nx ((σ.set i (some x)).set j (some y)) h1 := by
  unfold sPar; rw [e, liftS_ok']
theorem sSeq_ok {a b : AS} {σ σ1 : ASt} {h h1 : AH} {r : SRes} (ea : a σ h = .fin .nx σ1 h1) (eb : b σ1 h1 = r) : sSeq a b σ h = r := by rw [sSeq_eq, ea, ← eb]
theorem for_seq {g : AG} {b : AS} {a : AI} (xs : List PV) (I : Nat → ASt → AH → Prop) (hn : a.n = xs.length) (hx : ∀ i g, a.nxt i g = some xs[i]?) {σ : ASt} {h : AH} (h0 : I 0 σ h)
    (step : ∀ i x σ h, xs[i]? = some x → I i σ h → ∃ σ1 h1 σ2 h2, g x σ h = some (σ1, h1) ∧ b σ1 h1 = .fin .nx σ2 h2 ∧ I (i + 1) σ2 h2) :
    ∃ σ' h', forA a g b a.n 0 σ h = .fin .nx σ' h' ∧ I xs.length σ' h' :=
  forA_rule (a := a) xs I (fun r => ∃ σ' h', r = .fin .nx σ' h' ∧ I xs.length σ' h') (by omega) (fun i _ h _ _ => hx i h)
    (fun i x σ h ex hI => let ⟨σ1, h1, σ2, h2, e1, e2, e3⟩ := step i x σ h ex hI; ⟨σ1, h1, e1, .inl ⟨σ2, h2, .inl e2, e3⟩⟩) (fun σ h hI => ⟨σ, h, rfl, hI⟩) h0
theorem app_at {k : Nat} {g : AH} {xs : List PV} {y : PV} (e : g[k]? = some (.lst xs)) (hz : xs.length < 1000000) : mAppend (.loc k) [y] g = .ok .non (g.set k (.lst (xs ++ [y]))) := mAppend_ok e hz
theorem app_last {k : Nat} {g : AH} {xs : List PV} {y : PV} (hk : g.length = k) (hz : xs.length < 1000000) : mAppend (.loc k) [y] (g ++ [.lst xs]) = .ok .non (g ++ [.lst (xs ++ [y])]) := by
  subst hk
  rw [mAppend_ok (xs := xs) (by simp) hz]; simp
theorem isL_last {k : Nat} {g : AH} {xs : List PV} (hk : g.length = k) : isL (.loc k) (g ++ [.lst xs]) = true := by
  subst hk; exact isL_loc (xs := xs) (by simp)
def pairV (e : Nat × Nat) : PV := .tup [.int e.1, .int e.2]
def lineV (l : Str × Nat × Nat) : PV := .tup [.str l.1, .int l.2.1, .int l.2.2]
def netV (ns : List Str) (L : List (Str × Nat × Nat)) : PV := .tup [.tup (ns.map .str), .tup (L.map lineV)]
structure Net (ns : List Str) (L : List (Str × Nat × Nat)) : Prop where
  pos : 0 < ns.length
  lt : ∀ l ∈ L, l.2.1 < ns.length ∧ l.2.2 < ns.length
  cn : ∀ p, p < ns.length → MG.Cn (L.map (·.2)) 0 p
  n10 : ns.length ≤ 10
  l20 : L.length ≤ 20
theorem getLast_app {α : Type} (h : List α) (o : α) : (h ++ [o])[h.length]? = some o := by simp
theorem set_last {α : Type} (h : List α) (o o' : α) : (h ++ [o]).set h.length o' = h ++ [o'] := by simp
end AB

/-! MU: ways along lines, trees -/
namespace MG
theorem Cn.one {E : List (Nat × Nat)} {a b : Nat} (h : (a, b) ∈ E) : Cn E a b := .fw (.rf a) h
/-- a line more -/
theorem Cn.cut {E : List (Nat × Nat)} {x y a b : Nat} (h : Cn (E ++ [(x, y)]) a b) : Cn E a b ∨ (Cn E a x ∧ Cn E y b) ∨ (Cn E a y ∧ Cn E x b) := by
  induction h with
  | rf => exact .inl (.rf _)
  | @fw b c _ m ih =>
    rcases List.mem_append.mp m with m | m
    · rcases ih with i | ⟨i, j⟩ | ⟨i, j⟩
      · exact .inl (.fw i m)
      · exact .inr (.inl ⟨i, .fw j m⟩)
      · exact .inr (.inr ⟨i, .fw j m⟩)
    · cases (List.mem_singleton.mp m)
      rcases ih with i | ⟨i, j⟩ | ⟨i, j⟩
      · exact .inr (.inl ⟨i, .rf _⟩)
      · exact .inr (.inl ⟨i, .rf _⟩)
      · exact .inl i
  | @bw b c _ m ih =>
    rcases List.mem_append.mp m with m | m
    · rcases ih with i | ⟨i, j⟩ | ⟨i, j⟩
      · exact .inl (.bw i m)
      · exact .inr (.inl ⟨i, .bw j m⟩)
      · exact .inr (.inr ⟨i, .bw j m⟩)
    · cases (List.mem_singleton.mp m)
      rcases ih with i | ⟨i, j⟩ | ⟨i, j⟩
      · exact .inr (.inr ⟨i, .rf _⟩)
      · exact .inl i
      · exact .inr (.inr ⟨i, .rf _⟩)
section
variable (e : Nat → Nat × Nat)
/-- the lines ks hang a and b together -/
def Jn (ks : List Nat) (a b : Nat) : Prop := Cn (ks.map e) a b
variable {e}
theorem Jn.rf {ks : List Nat} (a : Nat) : Jn e ks a a := Cn.rf a
theorem Jn.tr {ks : List Nat} {a b c : Nat} (x : Jn e ks a b) (y : Jn e ks b c) : Jn e ks a c := Cn.tr x y
theorem Jn.sm {ks : List Nat} {a b : Nat} (x : Jn e ks a b) : Jn e ks b a := Cn.sm x
theorem Jn.mono {ks js : List Nat} {a b : Nat} (x : Jn e ks a b) (s : ∀ k ∈ ks, k ∈ js) : Jn e js a b := Cn.mono (fun p hp => by
  obtain ⟨k, hk, rfl⟩ := List.mem_map.mp hp
  exact List.mem_map.mpr ⟨k, s k hk, rfl⟩) x
theorem Jn.line {ks : List Nat} {k : Nat} (h : k ∈ ks) : Jn e ks (e k).1 (e k).2 := Cn.one (List.mem_map.mpr ⟨k, h, rfl⟩)
theorem Jn.cut {ks : List Nat} {k a b : Nat} (h : Jn e (ks ++ [k]) a b) : Jn e ks a b ∨ (Jn e ks a (e k).1 ∧ Jn e ks (e k).2 b) ∨ (Jn e ks a (e k).2 ∧ Jn e ks (e k).1 b) := by
  unfold Jn at h
  rw [List.map_append] at h
  exact Cn.cut (x := (e k).1) (y := (e k).2) h
/-- without a line -/
abbrev wo (ks : List Nat) (k : Nat) : List Nat := ks.filter fun j => !decide (j = k)
theorem mem_wo {ks : List Nat} {k j : Nat} : j ∈ wo ks k ↔ j ∈ ks ∧ j ≠ k := by simp [wo]
theorem wo_back {ks : List Nat} {k j : Nat} (h : j ∈ ks) : j ∈ wo ks k ++ [k] := by
  by_cases c : j = k
  · subst c; simp
  · exact List.mem_append_left _ (mem_wo.mpr ⟨h, c⟩)
/-- no ring -/
def Fst (e : Nat → Nat × Nat) (ks : List Nat) : Prop := ∀ k ∈ ks, ¬ Jn e (wo ks k) (e k).1 (e k).2
theorem Fst.sub {ks js : List Nat} (f : Fst e ks) (s : ∀ k ∈ js, k ∈ ks) : Fst e js := fun k hk h => f k (s k hk) (h.mono fun j hj => by
  rw [mem_wo] at hj ⊢; exact ⟨s j hj.1, hj.2⟩)
theorem Fst.nil : Fst e [] := fun k hk => by cases hk
theorem Fst.add {ks : List Nat} {k : Nat} (f : Fst e ks) (h : ¬ Jn e ks (e k).1 (e k).2) : Fst e (ks ++ [k]) := by
  have nk : k ∉ ks := fun c => h (Jn.line c)
  intro j hj c
  rcases List.mem_append.mp hj with hj | hj
  · have jk : j ≠ k := fun c => nk (c ▸ hj)
    have c1 : Jn e (wo ks j ++ [k]) (e j).1 (e j).2 := c.mono fun i hi => by
      obtain ⟨h1, h2⟩ := mem_wo.mp hi
      rcases List.mem_append.mp h1 with h1 | h1
      · exact List.mem_append_left _ (mem_wo.mpr ⟨h1, h2⟩)
      · exact List.mem_append_right _ h1
    have up : ∀ {a b}, Jn e (wo ks j) a b → Jn e ks a b := fun x => x.mono fun i hi => (mem_wo.mp hi).1
    rcases c1.cut with c1 | ⟨c1, c2⟩ | ⟨c1, c2⟩
    · exact f j hj c1
    · exact h ((up c1).sm.tr ((Jn.line hj).tr (up c2).sm))
    · exact h ((up c2).tr ((Jn.line hj).sm.tr (up c1)))
  · rw [List.mem_singleton] at hj
    subst hj
    exact h (c.mono fun i hi => by
      obtain ⟨h1, h2⟩ := mem_wo.mp hi
      rcases List.mem_append.mp h1 with h1 | h1
      · exact h1
      · exact absurd (List.mem_singleton.mp h1) h2)
/-- a way of lines -/
inductive Way (e : Nat → Nat × Nat) (ks : List Nat) : Nat → List Nat → Nat → Prop
  | nl (a : Nat) : Way e ks a [] a
  | sn {a b c : Nat} {p : List Nat} {k : Nat} : Way e ks a p b → k ∈ ks → (e k = (b, c) ∨ e k = (c, b)) → Way e ks a (p ++ [k]) c
theorem Way.mem {ks : List Nat} {a b : Nat} {p : List Nat} (w : Way e ks a p b) : ∀ k ∈ p, k ∈ ks := by
  induction w with
  | nl => intro k hk; cases hk
  | sn _ m _ ih =>
    intro k hk
    rcases List.mem_append.mp hk with hk | hk
    · exact ih k hk
    · rw [List.mem_singleton] at hk; subst hk; exact m
theorem Way.mono {ks js : List Nat} {a b : Nat} {p : List Nat} (w : Way e ks a p b) (s : ∀ k ∈ p, k ∈ js) : Way e js a p b := by
  induction w with
  | nl => exact .nl _
  | sn _ m h ih => exact .sn (ih fun k hk => s k (List.mem_append_left _ hk)) (s _ (by simp)) h
theorem Way.jn {ks : List Nat} {a b : Nat} {p : List Nat} (w : Way e ks a p b) : Jn e ks a b := by
  induction w with
  | nl => exact .rf _
  | sn _ m h ih =>
    rcases h with h | h
    · have := Jn.line (e := e) m; rw [h] at this; exact ih.tr this
    · have := Jn.line (e := e) m; rw [h] at this; exact ih.tr this.sm
theorem Way.split {ks : List Nat} {a b : Nat} {p : List Nat} (w : Way e ks a p b) : ∀ {p1 p2 : List Nat} {k : Nat}, p = p1 ++ k :: p2 → ∃ x y, Way e ks a p1 x ∧ (e k = (x, y) ∨ e k = (y, x)) ∧ Way e ks y p2 b := by
  induction w with
  | nl => intro p1 p2 k h; cases p1 <;> cases h
  | @sn b c p j w m h ih =>
    intro p1 p2 k hp
    rcases List.eq_nil_or_concat p2 with rfl | ⟨q, z, rfl⟩
    · have := List.append_inj_right' hp rfl
      have h2 := List.append_inj_left' hp rfl
      cases this
      subst h2
      exact ⟨b, c, w, h, .nl _⟩
    · have hp' : p ++ [j] = (p1 ++ k :: q) ++ [z] := by rw [hp]; simp
      have h1 := List.append_inj_right' hp' rfl
      have h2 := List.append_inj_left' hp' rfl
      cases h1
      obtain ⟨x, y, w1, j1, w2⟩ := ih h2
      refine ⟨x, y, w1, j1, ?_⟩
      have := Way.sn w2 m h
      simpa using this
theorem Way.cat {ks : List Nat} {a b c : Nat} {p q : List Nat} (w : Way e ks a p b) (v : Way e ks b q c) : Way e ks a (p ++ q) c := by
  induction v with
  | nl => simpa using w
  | sn _ m h ih => have := Way.sn ih m h; simpa using this
/-- what is on a way in a tree -/
theorem Way.on {ks : List Nat} (f : Fst e ks) {a b : Nat} {p : List Nat} (w : Way e ks a p b) (nd : p.Nodup) {k : Nat} (hk : k ∈ ks) : k ∈ p ↔ ¬ Jn e (wo ks k) a b := by
  constructor
  · intro h c
    obtain ⟨p1, p2, rfl⟩ := List.append_of_mem h
    obtain ⟨x, y, w1, j, w2⟩ := w.split rfl
    have nd' := List.nodup_append.mp nd
    have n1 : k ∉ p1 := fun c => nd'.2.2 k c k (by simp) rfl
    have n2 : k ∉ p2 := (List.nodup_cons.mp nd'.2.1).1
    have g : ∀ {x y q}, Way e ks x q y → k ∉ q → Jn e (wo ks k) x y := fun w n => (w.mono (js := wo ks k) fun j hj => mem_wo.mpr ⟨w.mem j hj, fun c => n (c ▸ hj)⟩).jn
    have xy : Jn e (wo ks k) x y := (g w1 n1).sm.tr (c.tr (g w2 n2).sm)
    have := f k hk
    rcases j with j | j
    · rw [j] at this; exact this xy
    · rw [j] at this; exact this xy.sm
  · intro h
    by_cases c : k ∈ p
    · exact c
    · exact absurd (w.mono (js := wo ks k) fun j hj => mem_wo.mpr ⟨w.mem j hj, fun d => c (d ▸ hj)⟩).jn h
theorem Way.nil_eq {ks : List Nat} {a b : Nat} {p : List Nat} (w : Way e ks a p b) (h : p = []) : a = b := by
  cases w with
  | nl => rfl
  | sn => simp at h
theorem Way.nil_of {ks : List Nat} (f : Fst e ks) {a : Nat} {p : List Nat} (w : Way e ks a p a) (nd : p.Nodup) : p = [] := by
  cases p with
  | nil => rfl
  | cons k p => exact absurd (Jn.rf a) ((w.on f nd (w.mem k (by simp))).mp (by simp))
/-- ways in a tree: one only -/
theorem Way.one {ks : List Nat} (f : Fst e ks) : ∀ {p q : List Nat} {a b : Nat}, Way e ks a p b → p.Nodup → Way e ks a q b → q.Nodup → p = q
  | [], q, a, b, w, nd, v, nv => by
    have := w.nil_eq rfl
    subst this
    exact (v.nil_of f nv).symm
  | k :: p, q, a, b, w, nd, v, nv => by
    have hk := w.mem k (by simp)
    have kq : k ∈ q := (v.on f nv hk).mpr ((w.on f nd hk).mp (by simp))
    obtain ⟨x, y, w1, j, w2⟩ := w.split (p1 := []) (p2 := p) rfl
    have := w1.nil_eq rfl
    subst this
    obtain ⟨q1, q2, rfl⟩ := List.append_of_mem kq
    obtain ⟨x', y', v1, j', v2⟩ := v.split rfl
    have nv' := List.nodup_append.mp nv
    have n2 : k ∉ q2 := (List.nodup_cons.mp nv'.2.1).1
    have cs : (x' = a ∧ y' = y) ∨ (x' = y ∧ y' = a) := by
      rcases j with j | j <;> rcases j' with j' | j' <;> rw [j] at j' <;> cases j' <;> first | exact .inl ⟨rfl, rfl⟩ | exact .inr ⟨rfl, rfl⟩
    rcases cs with ⟨rfl, rfl⟩ | ⟨rfl, rfl⟩
    · have e1 := v1.nil_of f nv'.1
      subst e1
      rw [Way.one f w2 (List.nodup_cons.mp nd).2 v2 (List.nodup_cons.mp nv'.2.1).2]
      rfl
    · have := (v2.on f (List.nodup_cons.mp nv'.2.1).2 hk).mpr ((v.on f nv hk).mp kq)
      exact absurd this n2
open Classical in
/-- the lines of the way in a tree, as a lot -/
noncomputable def onW (e : Nat → Nat × Nat) (ks : List Nat) (a b : Nat) : List Nat := ks.filter fun k => !decide (Jn e (wo ks k) a b)
theorem Way.perm {ks : List Nat} (nk : ks.Nodup) (f : Fst e ks) {a b : Nat} {p : List Nat} (w : Way e ks a p b) (nd : p.Nodup) : p.Perm (onW e ks a b) := by
  refine (List.perm_ext_iff_of_nodup nd (nk.filter _)).mpr fun k => ?_
  constructor
  · intro h
    have hk := w.mem k h
    exact List.mem_filter.mpr ⟨hk, by simpa using (w.on f nd hk).mp h⟩
  · intro h
    obtain ⟨hk, h2⟩ := List.mem_filter.mp h
    exact (w.on f nd hk).mpr (by simpa using h2)
/-- a line changed for another one -/
theorem Fst.swap {ks : List Nat} (f : Fst e ks) {k j : Nat} (h : ¬ Jn e (wo ks j) (e k).1 (e k).2) : Fst e (wo ks j ++ [k]) :=
  (f.sub fun i hi => (mem_wo.mp hi).1).add h
theorem swap_jn {ks : List Nat} {k j : Nat} (c : Jn e ks (e k).1 (e k).2) (h : ¬ Jn e (wo ks j) (e k).1 (e k).2) {a b : Nat} (g : Jn e ks a b) : Jn e (wo ks j ++ [k]) a b := by
  have kk : Jn e (wo ks j ++ [k]) (e k).1 (e k).2 := Jn.line (by simp)
  have up : ∀ {a b}, Jn e (wo ks j) a b → Jn e (wo ks j ++ [k]) a b := fun x => x.mono fun i hi => List.mem_append_left _ hi
  have jj : Jn e (wo ks j ++ [k]) (e j).1 (e j).2 := by
    have c1 : Jn e (wo ks j ++ [j]) (e k).1 (e k).2 := c.mono fun i hi => wo_back hi
    rcases c1.cut with c1 | ⟨c1, c2⟩ | ⟨c1, c2⟩
    · exact absurd c1 h
    · exact (up c1).sm.tr (kk.tr (up c2).sm)
    · exact (up c2).tr (kk.sm.tr (up c1))
  have g1 : Jn e (wo ks j ++ [j]) a b := g.mono fun i hi => wo_back hi
  rcases g1.cut with g1 | ⟨g1, g2⟩ | ⟨g1, g2⟩
  · exact up g1
  · exact (up g1).tr (jj.tr (up g2))
  · exact (up g1).tr (jj.sm.tr (up g2))
theorem Fst.perm {ks js : List Nat} (f : Fst e ks) (p : js.Perm ks) : Fst e js := f.sub fun k hk => p.mem_iff.mp hk
theorem Jn.perm {ks js : List Nat} {a b : Nat} (h : Jn e ks a b) (p : ks.Perm js) : Jn e js a b := h.mono fun k hk => p.mem_iff.mp hk
end
end MG

/-! MV: a tape of any kind: the first K objects -/
namespace AB
open PySem PySem.Spec
open PyProof.Rows hiding St
open L2
structure TK where
  K : Nat
  ok : AH → Prop
  len : ∀ t, ok t → t.length = K
  low : ∀ t, ok t → ∀ o ∈ t, AO.low K o = true
theorem AO.low_mono {k j : Nat} (h : k ≤ j) (o : AO) (l : AO.low k o = true) : AO.low j o = true := by
  cases o <;> exact belows_mono h _ l
def TpG (T : TK) (h : AH) : Prop := T.ok (h.take T.K)
def MvG (T : TK) (h h' : AH) : Prop := T.K ≤ h.length ∧ ∃ t, T.ok t ∧ h' = t ++ h.drop T.K
section
variable {T : TK}
theorem TpG.le {h : AH} (t : TpG T h) : T.K ≤ h.length := by have := T.len _ t; rw [List.length_take] at this; omega
theorem TpG.mv {h h' : AH} (_t : TpG T h) (m : MvG T h h') : TpG T h' := by
  obtain ⟨_, s, o, rfl⟩ := m
  have := T.len _ o
  unfold TpG
  rw [List.take_append_of_le_length (by omega), List.take_of_length_le (by omega)]; exact o
theorem TpG.rf {h : AH} (t : TpG T h) : MvG T h h := ⟨t.le, _, t, (List.take_append_drop _ _).symm⟩
theorem MvG.tr {a b c : AH} (x : MvG T a b) (y : MvG T b c) : MvG T a c := by
  obtain ⟨l, s, o, rfl⟩ := x
  obtain ⟨_, u, p, rfl⟩ := y
  refine ⟨l, u, p, ?_⟩
  have := T.len _ o
  rw [List.drop_left' this]
theorem MvG.len {h h' : AH} (m : MvG T h h') : h'.length = h.length := by
  obtain ⟨l, s, o, rfl⟩ := m
  have := T.len _ o
  simp; omega
theorem TpG.app {h : AH} (t : TpG T h) (g : AH) : TpG T (h ++ g) := by
  unfold TpG
  rw [List.take_append_of_le_length t.le]; exact t
theorem TpG.split {h g h' : AH} (t : TpG T h) (m : MvG T (h ++ g) h') : ∃ h1, h' = h1 ++ g ∧ MvG T h h1 := by
  obtain ⟨_, s, o, rfl⟩ := m
  exact ⟨s ++ h.drop T.K, by rw [List.drop_append_of_le_length t.le, List.append_assoc], t.le, s, o, rfl⟩
theorem MvG.app {h h1 : AH} (m : MvG T h h1) (g : AH) : MvG T (h ++ g) (h1 ++ g) := by
  obtain ⟨l, s, o, rfl⟩ := m
  exact ⟨by simp; omega, s, o, by rw [List.drop_append_of_le_length l, List.append_assoc]⟩
theorem MvG.low {h h1 : AH} (m : MvG T h h1) (n : Nat) (hn : n < h.length) : h1[n]? = h[n]? ∨ ∃ o, h1[n]? = some o ∧ AO.low h.length o = true := by
  obtain ⟨l, s, o, rfl⟩ := m
  have ls := T.len _ o
  by_cases c : n < T.K
  · refine .inr ⟨s[n], ?_, AO.low_mono l _ (T.low _ o _ (List.getElem_mem (by omega)))⟩
    rw [List.getElem?_append_left (by omega)]; exact List.getElem?_eq_getElem _
  · refine .inl ?_
    rw [List.getElem?_append_right (by omega), List.getElem?_drop, ls]
    congr 1; omega
theorem finC_mvG {h h1 g : AH} {v v' : PV} (m : MvG T h h1) (hv : frz h.length (h1 ++ g) v = some v') : finC h.length h (h1 ++ g) v = .ok v' h1 := by
  have e := m.len
  rw [finC_ok (fun n hn => ?_) hv]
  · rw [← e, List.take_left]
  · rw [List.getElem?_append_left (by omega)]
    exact m.low n hn
theorem finC_mvG0 {h h1 : AH} {v : PV} (m : MvG T h h1) (hv : v.low h.length = true) : finC h.length h h1 v = .ok v h1 := by
  have := finC_mvG (g := []) (v := v) (v' := v) m (by rw [List.append_nil]; exact frz_below hv)
  rwa [List.append_nil] at this
end
theorem mPop_last {n : Nat} {xs : List PV} {y : PV} {h : AH} (e : h[n]? = some (.lst (xs ++ [y]))) : mPop (.loc n) [] h = .ok y (h.set n (.lst xs)) := by
  unfold mPop
  simp only [e]
  have : (xs ++ [y])[(xs ++ [y]).length - 1]? = some y := by simp
  rw [this]
  simp [put]
theorem mPop_at {n k : Nat} {xs : List PV} {y : PV} {h : AH} (e : h[n]? = some (.lst xs)) (hk : xs[k]? = some y) (hz : xs.length ≤ 1000000) : mPop (.loc n) [.int k] h = .ok y (h.set n (.lst (xs.eraseIdx k))) := by
  have kl := (List.getElem?_eq_some_iff.mp hk).1
  unfold mPop
  simp only [e]
  rw [if_pos (by omega), ixN_of (by omega) (by omega)]
  simp only [Int.toNat_natCast, hk]
  rfl
end AB

/-! AB13: sorted of tuples of ints, tuples from behind -/
namespace AB
open PySem PySem.Spec
open PyProof.Rows hiding St
open L2
theorem hu65 {k : Nat} {A : Around} (r : Room k A) : A.units + 65 < cLine := by have := r.un; omega
section
variable {prog : Program} {w : World} {A : Around} {E : Value → Shared → Prop} {s : Shared}
def gathered (h : Heap) (us : List Value) : Heap := (h.push (seqObj "list" #[] 0)).update h.objs.size (Obj.mapSeq (· ++ us.toArray))
theorem gather_tup {t : Addr} {us : List Value} {R : List Value → Shared → Prop} (ht : IsTup s.heap t us.toArray) (hz : us.length ≤ sizeLine) (q : R us { s with heap := gathered s.heap us }) :
    wpAny (model prog w) A (collect (.ref t)) R E s := by
  obtain ⟨o, eo, ec, n, ed⟩ := id ht
  unfold collect
  refine wpAny_bind (wpAny_runValue (codeAny_builtin PyProof.Rows.entry_proto_collect' ?_))
  show wpAny _ _ (do again (.builtin "list.__iadd__" ⟨[← newList [], .ref t], []⟩)) _ _ s
  refine wpAny_bind (wpAny_newList (wpAny_pure ⟨Code.quiet_builtin _ (by decide +kernel), codeAny_builtin PyProof.Rows.entry_list_iadd' ?_⟩))
  show wpAny _ _ (Builtin.List.listExtendWith (.ref s.heap.objs.size) (.ref t) (.ref s.heap.objs.size)) _ _ { s with heap := s.heap.push (seqObj "list" #[] 0) }
  unfold Builtin.List.listExtendWith
  have eo' : (s.heap.push (seqObj "list" #[] 0)).get? t = some o := Heap.get?_push_of_some _ eo
  refine wpAny_bind (wpAny_typeOf (T := "tuple") ⟨o, eo', ec⟩ ?_)
  have k1 : (Value.type "tuple" == Value.type "tuple") = true := by rfl
  rw [if_pos (by rw [k1]; simp)]
  refine wpAny_bind (PyProof.Rows.listItems_at eo' ed ?_)
  refine wpAny_bind (PyProof.Rows.listItems_at (xs := #[]) (n := 0) (Heap.get?_push_size _ rfl) rfl ?_)
  rw [if_neg (by simp)]
  refine wpAny_bind (PyProof.Rows.listUpdate_at (xs := #[]) (n := 0) (Heap.get?_push_size _ rfl) rfl ?_ (Nat.zero_le _) (by show (#[] ++ us.toArray).size ≤ sizeLine + 1; simp only [Array.size_append, List.size_toArray, List.length_nil]; omega))
  refine wpAny_pure ?_
  show wpAny (model prog w) A (do
      let b ← load s.heap.objs.size
      match b.data with
      | .seq ys _ => pure ys.toList
      | _ => unsupported "internal:collect") R E { s with heap := gathered s.heap us }
  refine wpAny_bind (wpAny_load (get?_update_seq (Heap.get?_push_size _ rfl) _) ?_)
  show wpAny _ _ (pure ((#[] : Array Value) ++ us.toArray).toList) R E _
  rw [show ((#[] : Array Value) ++ us.toArray).toList = us by simp]
  exact wpAny_pure q
theorem sorted_tupI {t : Addr} {us : List Value} {ns : List Int} {R : Value → Shared → Prop} (ht : IsTup s.heap t us.toArray) (hi : IntsAre us ns) (hz : us.length < 64)
    (q : ∀ (out : Array Value) (ms : List Int), IntsAre out.toList ms → ms.Perm ns → ms.Pairwise (· ≤ ·) → R (.ref (s.heap.objs.size + 1)) { s with heap := sortedAll s.heap us out }) :
    wpAny (model prog w) A (call (.builtin "sorted") [.ref t]) R E s := by
  refine Calls.call_function_entry PyProof.Rows.kind_sorted PyProof.Rows.plain_sorted PyProof.Rows.entry_sorted (PyProof.Rows.args_sorted1 _) ?_
  unfold Builtin.«sorted»
  refine wpAny_bind (m := checkCount "sorted" 1 1 _) (wpAny_pure ?_)
  have z1 : us.length ≤ sizeLine := by rw [sizeLine_eq]; omega
  refine wpAny_bind (gather_tup ht z1 ?_)
  refine wpAny_bind (wpAny_newList ?_ z1)
  have sz : (gathered s.heap us).objs.size = s.heap.objs.size + 1 := by unfold gathered; rw [Heap.size_update, size_push']
  have at1 : ((gathered s.heap us).push (seqObj "list" us.toArray 0)).get? (s.heap.objs.size + 1) = some (seqObj "list" us.toArray 0) := by
    rw [← sz]; exact Heap.get?_push_size _ rfl
  show wpAny _ _ _ _ _ { s with heap := (gathered s.heap us).push (seqObj "list" us.toArray 0) }
  rw [sz]
  refine wpAny_bind (wpAny_holding (wpAny_call_entry PyProof.Rows.slot_list_sort ⟨_, at1, rfl⟩ PyProof.Rows.entry_list_sort (PyProof.Rows.list_sort_tree at1 hi hz fun out ms a1 a2 a3 => ⟨_, rfl, ?_⟩) (PyProof.Rows.args_list_sort _)))
  exact wpAny_pure ⟨_, rfl, q out ms a1 a2 a3⟩
end
/-- sorted of a list or a tuple of ints -/
def rSortLT (K : PySem.W.Frag) : List V → Hp → VK → Prop := fun vs H Q => ∃ (a : Addr) (ns : List Int), vs = [V.ref a] ∧ (SqL K H a (ns.map V.int) ∨ SqT K H a (ns.map V.int)) ∧ ns.length < 64 ∧
  ∀ (ms : List Int) (p : Addr), ms.Perm ns → ms.Pairwise (· ≤ ·) → H p = none → Q (.ref p) (upd H p (.lst (ms.map V.int)))
theorem cr_sortLT {X : Cx} : CallR X (.builtin "sorted") (rSortLT X.K) := by
  intro pins s σ H vs us Q I r h
  obtain ⟨a, ns, rfl, hs | hs, hz, q⟩ := h
  · exact cr_sorted pins s σ H [.ref a] us Q I r ⟨a, ns, rfl, hs, hz, q⟩
  · obtain ⟨its, rv, ht, _⟩ := I.tuple hs
    rw [Vals.ref1 r]
    have hi := rv.ints
    refine sorted_tupI ht hi (by rw [hi.length]; exact hz) fun out ms h1 h2 h3 => ?_
    obtain ⟨ep, he⟩ := PyProof.Rows.sortedAll_at s.heap its out
    have hl : (ms.map V.int).length ≤ sizeLine := by rw [List.length_map, h2.length_eq, sizeLine_eq]; omega
    exact ⟨.ref _, upd H (s.heap.objs.size + 1) (.lst (ms.map V.int)), I.laid (t' := s.toks) (fun _ _ => PyProof.Rows.sortedAll_old) (Nat.le_succ _) ⟨hl, out.toList, ep, vals_of_ints h1, he⟩, rfl, q ms _ h2 h3 (I.hok.fresh (Nat.le_succ _))⟩
def fnSortLT : FN
  | [v], h => match (seqOf v h).bind intsOf with
    | some ns => if ns.length < 64 then new (.lst ((ns.mergeSort (fun a b => decide (a ≤ b))).map .int)) h else .stuck
    | none => .stuck
  | _, _ => .stuck
theorem j_sortLT {X : Cx} : JFn X (.builtin "sorted") fnSortLT := jfn cr_sortLT fun ρ h H τ W xs vs Q R r o => by
  unfold fnSortLT at o
  split at o
  · obtain ⟨v, rfl, q⟩ := one_inv r
    split at o
    · rename_i ns e
      split at o
      · rename_i hz
        obtain ⟨ys, e1, e2⟩ := Option.bind_eq_some_iff.mp e
        have e3 := intsOf_eq e2
        subst e3
        obtain ⟨p, zs, rfl, s, qq⟩ := seq_of R q e1
        rw [qq.ints] at s
        refine ⟨p, ns, rfl, s, hz, fun ms l hp hs hl => ?_⟩
        rw [sort_the hp hs]
        exact new_lst R (.of_ints _) o l hl
      · exact o.elim
    · exact o.elim
  · exact o.elim
theorem range_all {α : Type} : ∀ ys : List α, (List.range ys.length).filterMap (fun k => ys[k]?) = ys := fun ys => by
  have key : ∀ (n : Nat), n ≤ ys.length → (List.range n).filterMap (fun k => ys[k]?) = ys.take n := by
    intro n
    induction n with
    | zero => intro _; simp
    | succ n ih =>
      intro h
      rw [List.range_succ, List.filterMap_append, ih (by omega), List.take_succ]
      congr 1
  rw [key _ (Nat.le_refl _), List.take_length]
theorem fm_congr {α β : Type} {f g : α → Option β} : ∀ {l : List α}, (∀ x ∈ l, f x = g x) → l.filterMap f = l.filterMap g
  | [], _ => rfl
  | x :: l, h => by rw [List.filterMap_cons, List.filterMap_cons, h x (by simp), fm_congr fun y hy => h y (List.mem_cons_of_mem _ hy)]
theorem pick_rev (xs : Array Value) : ((List.range xs.size).filterMap fun (k : Nat) => xs[((xs.size : Int) - 1 + (k : Int) * (-1)).toNat]?).toArray = xs.toList.reverse.toArray := by
  congr 1
  have e := range_all xs.toList.reverse
  rw [List.length_reverse, Array.length_toList] at e
  rw [← e]
  refine fm_congr fun k hk => ?_
  have hk' : k < xs.size := List.mem_range.mp hk
  have e2 : ((xs.size : Int) - 1 + (k : Int) * (-1)).toNat = xs.size - 1 - k := by omega
  rw [e2, List.getElem?_reverse (by simpa using hk'), Array.length_toList, Array.getElem?_toList]
section
variable {prog : Program} {w : World} {A : Around} {E : Value → Shared → Prop} {s : Shared}
theorem adjust_rev (n : Nat) : Builtin.Slice.sliceAdjust none none (-1) (n : Int) = ((n : Int) - 1, -1) := by
  unfold Builtin.Slice.sliceAdjust
  have h1 : ((-1 : Int) < 0) := by omega
  simp only [h1, if_true]
theorem places_rev (n : Nat) : Builtin.Slice.slicePlaces ((n : Int) - 1) (-1) (-1) = n := by
  unfold Builtin.Slice.slicePlaces
  have h1 : ¬ ((-1 : Int) > 0) := by omega
  have e : ((n : Int) - 1 - -1 - 1) / - -1 = (n : Int) - 1 := by rw [show (- -1 : Int) = 1 from rfl, Int.ediv_one]; omega
  simp only [h1, if_false]
  rw [e]
  split <;> omega
theorem applied_rev {sl : Addr} {u : Tok} {n : Nat} {R : Int × Int × Nat → Shared → Prop} (hs : s.heap.IsSliceOf sl .none .none (.int (-1) u)) (q : R ((n : Int) - 1, -1, n) s) :
    wpAny (model prog w) A (Builtin.Slice.sliceApplied (.ref sl) (pure (n : Int))) R E s := by
  obtain ⟨os, hos, hcs, hds⟩ := id hs
  unfold Builtin.Slice.sliceApplied Builtin.Slice.sliceFields
  refine wpAny_bind (wpAny_bind (wpAny_field hos hds (x := .none) rfl (wpAny_bind (wpAny_field hos hds (x := .none) rfl (wpAny_bind (wpAny_field hos hds (x := .int (-1) u) rfl (wpAny_pure ?_)))))))
  refine wpAny_bind (PyProof.Rows.slicePart_int ?_)
  show wpAny _ _ (if ((-1 : Int) == 0) = true then _ else _) _ _ s
  rw [if_neg (by decide)]
  refine wpAny_bind (PyProof.Rows.slicePart_none (wpAny_bind (PyProof.Rows.slicePart_none (wpAny_bind (wpAny_pure ?_)))))
  show wpAny _ _ (match Builtin.Slice.sliceAdjust none none (-1) (n : Int) with | (lo, hi) => pure (lo, (-1 : Int), Builtin.Slice.slicePlaces lo hi (-1))) _ _ s
  rw [adjust_rev]
  show wpAny _ _ (pure ((n : Int) - 1, (-1 : Int), Builtin.Slice.slicePlaces ((n : Int) - 1) (-1) (-1))) _ _ s
  rw [places_rev]
  exact wpAny_pure q
theorem item_tuple_rev {t sl : Addr} {its : Array Value} {u : Tok} {R : Value → Shared → Prop} (ht : IsTup s.heap t its) (hs : s.heap.IsSliceOf sl .none .none (.int (-1) u)) (hz : its.size ≤ sizeLine)
    (q : R (.ref s.heap.objs.size) { s with heap := s.heap.push { cls := .type "tuple", data := .seq its.toList.reverse.toArray } }) : wpAny (model prog w) A (getItem (.ref t) (.ref sl)) R E s := by
  have hd : sizeOk (.seq its.toList.reverse.toArray) := by
    show its.toList.reverse.toArray.size ≤ sizeLine
    rw [List.size_toArray, List.length_reverse, Array.length_toList]; exact hz
  obtain ⟨os, hos, hcs, hds⟩ := id hs
  have hT : s.TypeIs (.ref sl) "slice" := ⟨os, hos, hcs⟩
  unfold getItem
  try with_reducible refine wpAny_holding ?_
  first | refine wpAny_bind (wpAny_pure ?_) | skip
  refine wpAny_bind (wpAny_sequenceKey ht.typeIs (by decide) ?_)
  refine wpAny_bind (wpAny_callSpecial?_slot (name := Str.ofString "__getitem__") ht.typeIs PyProof.Rows.slot_tuple_getitem (wpAny_call_entry PyProof.Rows.slot_tuple_getitem ht.typeIs PyProof.Rows.entry_tuple_getitem ?_ (PyProof.Rows.args_tuple_getitem _ _)))
  show wpAny _ _ (Builtin.Tuple.tupleItemsOf (.ref t) >>= _) _ _ s
  refine wpAny_bind (PyProof.Rows.tupleItemsOf_ ht ?_)
  refine wpAny_bind (wpAny_typeOf hT ?_)
  rw [if_pos (by decide)]
  refine wpAny_bind (applied_rev hs ?_)
  have no : ¬ (((its.size : Int) - 1 == 0 && (-1 : Int) == 1 && its.size == its.size) = true) := by
    have : ((-1 : Int) == 1) = false := by decide
    rw [this]; simp
  show wpAny _ _ (if ((its.size : Int) - 1 == 0 && (-1 : Int) == 1 && its.size == its.size) = true then _ else _) _ _ s
  rw [if_neg no, pick_rev its]
  first
    | exact wpAny_bind (m := Builtin.Tuple.tupleExact _) (wpAny_newObj_type (wpAny_pure ⟨_, rfl, wpAny_pure q⟩) hd)
    | exact wpAny_bind (m := Builtin.Tuple.tupleExact _) (wpAny_newObj_type (wpAny_bind (wpAny_pure (wpAny_pure ⟨_, rfl, wpAny_pure q⟩))) hd)
    | exact wpAny_bind (wpAny_bind (m := Builtin.Tuple.tupleExact _) (wpAny_newObj_type (wpAny_pure (wpAny_pure ⟨_, rfl, wpAny_pure q⟩)) hd))
    | exact wpAny_bind (wpAny_bind (m := Builtin.Tuple.tupleExact _) (wpAny_newObj_type (wpAny_pure ⟨_, rfl, wpAny_pure q⟩) hd))
end
def tRevT (K : PySem.W.Frag) (te : TE) : TE := fun σ H Q => te σ H fun x H1 => ∃ a xs, x = .ref a ∧ SqT K H1 a xs ∧ ∀ p, H1 p = none → Q (.ref p) (upd H1 p (.tup xs.reverse))
theorem pe_revT {X : Cx} {e : Expr} {te : TE} {k : Nat} {p1 p2 p3 pos : Pos} (he : PE X e te) : PE X (.Subscript e (.Slice none none (some (.UnaryOp .USub (.Constant (.int 1) k p1) p2)) p3) pos) (tRevT X.K te) := by
  refine ⟨fun pins s σ H Q I h => ?_⟩
  refine Subscript_ (thn (he.run pins s σ H _ I h) fun v s1 ⟨x, H1, I1, r1, q1⟩ => ?_)
  obtain ⟨a, xs, ex, hx, q⟩ := q1
  subst ex
  cases r1
  have st : PO X (some (.UnaryOp .USub (.Constant (.int 1) k p1) p2)) (tPart (tUn (rU fun i => .int (-i)) (tC (.int 1)))) := po_some (pe_un un_neg pe_int)
  refine wpAny_Slice (thn (po_none.run pins s1 σ H1 (fun o G => o = none ∧ G = H1) I1 ⟨rfl, rfl⟩) fun vl s2 ⟨l, H2, I2, pl, el, e2⟩ => ?_)
  subst el e2
  refine thn (po_none.run pins s2 σ H2 (fun o G => o = none ∧ G = H2) I2 ⟨rfl, rfl⟩) fun vu s3 ⟨u, H3, I3, pu, eu, e3⟩ => ?_
  subst eu e3
  refine thn (st.run pins s3 σ H3 (fun o G => o = some (-1) ∧ G = H3) I3 ⟨1, rfl, -1, rfl, rfl, rfl⟩) fun vs s4 ⟨o, H4, I4, ps, eo, e4⟩ => ?_
  subst eo e4
  cases pl
  cases pu
  obtain ⟨tk, rfl⟩ : ∃ tk, vs = .int (-1) tk := by cases ps; exact ⟨_, rfl⟩
  have I5 : L2.Inv X pins σ H4 { s4 with heap := s4.heap.push { cls := .type "slice", data := .fields #[.none, .none, .int (-1) tk] } } := I4.kept (t' := s4.toks) fun b ob q => Heap.get?_push_of_some _ q
  obtain ⟨its, r, ht, hz⟩ := I5.tuple hx
  have hl := r.length
  show wpAny (model X.prog X.w) X.A (subscriptTail e (.Slice none none (some (.UnaryOp .USub (.Constant (.int 1) k p1) p2)) p3) (.ref a) (.ref s4.heap.objs.size)) (EP X pins σ Q) X.xe { s4 with heap := s4.heap.push { cls := .type "slice", data := .fields #[.none, .none, .int (-1) tk] } }
  refine tail_any (ops := [.ref a, .ref s4.heap.objs.size]) ht.typeIs PyProof.Rows.slot_tuple_getitem.lookup ?_ (by with_unfolding_all rfl)
  refine item_tuple_rev ht (Heap.IsSliceOf.new _ _ _ _) (by rw [List.size_toArray]; omega) ?_
  refine ⟨.ref _, _, I5.laid (t' := s4.toks) (o := .tup xs.reverse) (fun b ob q => Heap.get?_push_of_some _ q) (Nat.le_refl _) ?_, rfl, q _ (I5.hok.fresh (Nat.le_refl _))⟩
  exact ⟨by rw [List.length_reverse]; exact hz, _, r.reverse, IsTup.new _ _⟩
/-- xs[::-1] of a list or a tuple -/
def fRevT : F1 := fun v h => match v with
  | .tup xs => .ok (.tup xs.reverse) h
  | _ => .stuck
theorem je_revT {X : Cx} {W : WX} {e : Expr} {m : AE} {k : Nat} {pos p1 p2 p3 : Pos} (he : JE X W e m) : JE X W (.Subscript e (.Slice none none (some (.UnaryOp .USub (.Constant (.int 1) k p1) p2)) p3) pos) (aUn fRevT m) :=
  ⟨PEmono (pe_revT he.pe) fun τ H Q ⟨ρ, h, σ, R, S, o⟩ => ⟨ρ, h, σ, R, S, (Out.bind (R := RV (cxKW X)) o).mono fun x H1 ⟨ρ1, v, h1, e1, R1, q1, o1⟩ => by
    cases v with
    | tup xs =>
      obtain ⟨p, vs, rfl, f, r⟩ := q1.tup_inv
      exact ⟨p, vs, rfl, f.sq, new_tup R1 r.reverse o1⟩
    | _ => exact o1.elim⟩⟩
end AB

/-! MX: heaps with new objects behind; sorting; permutations -/
namespace AB
open PySem PySem.Spec
open PyProof.Rows hiding St
open L2
theorem g0 {h j : AH} {a : AO} {n : Nat} (e : h.length = n) : (h ++ a :: j)[n]? = some a := by subst e; simp
theorem g1 {h j : AH} {a b : AO} {n : Nat} (e : h.length = n) : (h ++ a :: b :: j)[n + 1]? = some b := by subst e; simp
theorem g2 {h j : AH} {a b c : AO} {n : Nat} (e : h.length = n) : (h ++ a :: b :: c :: j)[n + 2]? = some c := by subst e; simp
theorem p0 {h j : AH} {a x : AO} {n : Nat} (e : h.length = n) : (h ++ a :: j).set n x = h ++ x :: j := by subst e; simp
theorem p1 {h j : AH} {a b x : AO} {n : Nat} (e : h.length = n) : (h ++ a :: b :: j).set (n + 1) x = h ++ a :: x :: j := by subst e; simp
theorem p2 {h j : AH} {a b c x : AO} {n : Nat} (e : h.length = n) : (h ++ a :: b :: c :: j).set (n + 2) x = h ++ a :: b :: x :: j := by subst e; simp
theorem isL0 {h j : AH} {xs : List PV} {n : Nat} (e : h.length = n) : isL (.loc n) (h ++ .lst xs :: j) = true := isL_loc (g0 e)
theorem isL1 {h j : AH} {a : AO} {xs : List PV} {n : Nat} (e : h.length = n) : isL (.loc (n + 1)) (h ++ a :: .lst xs :: j) = true := isL_loc (g1 e)
theorem isL2 {h j : AH} {a b : AO} {xs : List PV} {n : Nat} (e : h.length = n) : isL (.loc (n + 2)) (h ++ a :: b :: .lst xs :: j) = true := isL_loc (g2 e)
theorem ap0 {h j : AH} {xs : List PV} {y : PV} {n : Nat} (e : h.length = n) (hz : xs.length < 1000000) : mAppend (.loc n) [y] (h ++ .lst xs :: j) = .ok .non (h ++ .lst (xs ++ [y]) :: j) := by rw [mAppend_ok (g0 e) hz, p0 e]
theorem ap1 {h j : AH} {a : AO} {xs : List PV} {y : PV} {n : Nat} (e : h.length = n) (hz : xs.length < 1000000) : mAppend (.loc (n + 1)) [y] (h ++ a :: .lst xs :: j) = .ok .non (h ++ a :: .lst (xs ++ [y]) :: j) := by rw [mAppend_ok (g1 e) hz, p1 e]
theorem ap2 {h j : AH} {a b : AO} {xs : List PV} {y : PV} {n : Nat} (e : h.length = n) (hz : xs.length < 1000000) : mAppend (.loc (n + 2)) [y] (h ++ a :: b :: .lst xs :: j) = .ok .non (h ++ a :: b :: .lst (xs ++ [y]) :: j) := by rw [mAppend_ok (g2 e) hz, p2 e]
theorem len0 {h j : AH} {xs : List PV} {n : Nat} (e : h.length = n) : fnLen [.loc n] (h ++ .lst xs :: j) = .ok (.int xs.length) (h ++ .lst xs :: j) := fnLen_seq (seqOf_loc (g0 e))
theorem len1 {h j : AH} {a : AO} {xs : List PV} {n : Nat} (e : h.length = n) : fnLen [.loc (n + 1)] (h ++ a :: .lst xs :: j) = .ok (.int xs.length) (h ++ a :: .lst xs :: j) := fnLen_seq (seqOf_loc (g1 e))
theorem pop0 {h j : AH} {xs : List PV} {y : PV} {n : Nat} (e : h.length = n) : mPop (.loc n) [] (h ++ .lst (xs ++ [y]) :: j) = .ok y (h ++ .lst xs :: j) := by rw [mPop_last (g0 e), p0 e]
theorem pop1 {h j : AH} {a : AO} {xs : List PV} {y : PV} {n : Nat} (e : h.length = n) : mPop (.loc (n + 1)) [] (h ++ a :: .lst (xs ++ [y]) :: j) = .ok y (h ++ a :: .lst xs :: j) := by rw [mPop_last (g1 e), p1 e]
theorem popAt0 {h j : AH} {xs : List PV} {y : PV} {n k : Nat} (e : h.length = n) (hk : xs[k]? = some y) (hz : xs.length ≤ 1000000) : mPop (.loc n) [.int k] (h ++ .lst xs :: j) = .ok y (h ++ .lst (xs.eraseIdx k) :: j) := by rw [mPop_at (g0 e) hk hz, p0 e]
theorem erase_perm {α : Type} : ∀ {xs : List α} {k : Nat} {y : α}, xs[k]? = some y → (y :: xs.eraseIdx k).Perm xs
  | [], _, _, h => by cases h
  | x :: xs, 0, y, h => by cases h; exact .refl _
  | x :: xs, k + 1, y, h => by
    have q := erase_perm (xs := xs) (k := k) (y := y) h
    exact (List.Perm.swap x y _).trans (q.cons x)
theorem fnList_s {v : PV} {xs : List PV} {h : AH} (e : seqOf v h = some xs) : fnList [v] h = .ok (.loc h.length) (h ++ [.lst xs]) := by
  unfold fnList; simp only [e]; rfl
theorem snoc_app (h : AH) (a b : AO) : h ++ [a] ++ [b] = h ++ a :: [b] := by simp
/-- naturals sorted -/
def srtN (ks : List Nat) : List Nat := ks.mergeSort fun a b => decide (a ≤ b)
theorem srtN_perm (ks : List Nat) : (srtN ks).Perm ks := List.mergeSort_perm _ _
theorem srtN_le (ks : List Nat) : (srtN ks).Pairwise (· ≤ ·) := by
  have := List.pairwise_mergeSort (le := fun (a b : Nat) => decide (a ≤ b)) (fun a b c => by simp; omega) (fun a b => by simp; omega) ks
  exact this.imp (fun h => by simpa using h)
theorem srtN_of {ks js : List Nat} (p : js.Perm ks) (s : js.Pairwise (· ≤ ·)) : srtN ks = js :=
  List.Perm.eq_of_pairwise (le := fun (a b : Nat) => a ≤ b) (fun a b _ _ h1 h2 => by omega) (srtN_le ks) s ((srtN_perm ks).trans p.symm)
theorem sort_ints (ks : List Nat) : ((ks.map fun n : Nat => (n : Int)).mergeSort fun a b => decide (a ≤ b)) = (srtN ks).map fun n : Nat => (n : Int) := by
  symm
  refine sort_the ((srtN_perm ks).map _) ?_
  rw [List.pairwise_map]
  exact (srtN_le ks).imp fun h => by omega
theorem fnSortLT_n {v : PV} {ks : List Nat} {h : AH} (e : seqOf v h = some (ks.map nI)) (hz : ks.length < 64) : fnSortLT [v] h = .ok (.loc h.length) (h ++ [.lst ((srtN ks).map nI)]) := by
  unfold fnSortLT
  rw [nI_map] at e
  simp only [e, Option.bind_some, intsOf_map]
  rw [if_pos (by simpa using hz), sort_ints, ← nI_map]; rfl
/-- a list made item by item, the tape moving -/
theorem aLc_tapeI {m : AIt} {a : AI} {vs : List Nat} {g : AG} {e : AE} {σ : ASt} {h h1 : AH} (em : m σ h = .ok a h1) (xs : List PV) (I : List PV → AH → Prop) (hn : xs.length ≤ a.n) (hz : xs.length < 1000000)
    (hx : ∀ i (g : AH), i ≤ xs.length → a.nxt i g = some xs[i]?) (h0 : I [] h1) (hl : ∀ acc g, I acc g → g.length = h1.length)
    (step : ∀ i x, xs[i]? = some x → ∀ (acc : List PV) (h2 : AH), I acc h2 → acc.length = i → ∃ σ1 y h3, g x (wipeA σ vs) (h2 ++ [.lst acc]) = some (σ1, h2 ++ [.lst acc]) ∧ e σ1 (h2 ++ [.lst acc]) = .ok y (h3 ++ [.lst acc]) ∧ I (acc ++ [y]) h3) :
    ∃ acc h3, aLc m vs g tYes' e σ h = .ok (.loc h1.length) (h3 ++ [.lst acc]) ∧ I acc h3 ∧ acc.length = xs.length := by
  unfold aLc
  rw [em, Res.bind_ok]
  have key : ∀ (k n i : Nat) (acc : List PV) (h2 : AH), k = xs.length - i → i ≤ xs.length → xs.length ≤ n + i → acc.length = i → I acc h2 →
      ∃ acc' h3, lcA a vs g tYes' e σ h1.length n i (h2 ++ [.lst acc]) = .ok (.loc h1.length) (h3 ++ [.lst acc']) ∧ I acc' h3 ∧ acc'.length = xs.length := by
    intro k
    induction k with
    | zero =>
      intro n i acc h2 hk hi hni ha hI
      have ei : i = xs.length := by omega
      refine ⟨acc, h2, ?_, hI, by omega⟩
      unfold lcA
      rw [hx i _ hi, List.getElem?_eq_none (by omega)]
    | succ k ih =>
      intro n i acc h2 hk hi hni ha hI
      have hlt : i < xs.length := by omega
      have ex : xs[i]? = some xs[i] := by simp [hlt]
      obtain ⟨σ1, y, h3, e1, e3, hI3⟩ := step i xs[i] ex acc h2 hI ha
      unfold lcA
      rw [hx i _ hi, ex]
      cases n with
      | zero => omega
      | succ n =>
        simp only [e1, tYes'_eq, e3]
        have l3 := hl _ _ hI3
        have en : (h3 ++ [AO.lst acc])[h1.length]? = some (.lst acc) := by rw [← l3]; simp
        simp only [en]
        rw [if_pos (size_lt (by omega))]
        have es : (h3 ++ [AO.lst acc]).set h1.length (.lst (acc ++ [y])) = h3 ++ [.lst (acc ++ [y])] := by rw [← l3]; simp
        rw [es]
        exact ih n (i + 1) (acc ++ [y]) h3 (by omega) (by omega) (by omega) (by simp; omega) hI3
  exact key xs.length a.n 0 [] h1 rfl (Nat.zero_le _) (by omega) rfl h0
theorem perm_inv {α β : Type} {f : α → β} {g : β → α} (gf : ∀ x, g (f x) = x) {ys : List β} {xs : List α} (p : ys.Perm (xs.map f)) : ∃ zs : List α, ys = zs.map f ∧ zs.Perm xs := by
  refine ⟨ys.map g, ?_, ?_⟩
  · rw [List.map_map]
    have : ∀ y ∈ ys, (f ∘ g) y = y := fun y hy => by
      obtain ⟨x, _, rfl⟩ := List.mem_map.mp (p.mem_iff.mp hy)
      show f (g (f x)) = f x
      rw [gf]
    conv => lhs; rw [← List.map_id ys]
    exact List.map_congr_left fun y hy => (this y hy).symm
  · have q := p.map g
    rw [List.map_map] at q
    have : (g ∘ f) = id := funext gf
    rwa [this, List.map_id] at q
theorem getD_range {α : Type} (xs : List α) (d : α) : (List.range xs.length).map (fun k => xs.getD k d) = xs := by
  refine List.ext_getElem (by simp) fun i h1 h2 => ?_
  simp [List.getD_eq_getElem?_getD, h2]
theorem itRg_nxt (m i : Nat) (h : AH) : (itRg 0 m).nxt i h = some ((List.range m).map nI)[i]? := by
  show (if i < m then some (some (PV.int (0 + (i : Nat)))) else some none) = _
  by_cases c : i < m
  · rw [if_pos c]; simp [c]
  · rw [if_neg c]; simp [c]
def unP : PV → Nat × Nat
  | .tup [.int a, .int b] => (a.toNat, b.toNat)
  | _ => (0, 0)
theorem unP_pair (e : Nat × Nat) : unP (pairV e) = e := rfl
theorem low_pairs (k : Nat) (es : List (Nat × Nat)) : PV.lows k (es.map pairV) = true := low_all fun x hx => by
  obtain ⟨s, _, rfl⟩ := List.mem_map.mp hx; rfl
theorem low_net (k : Nat) (ns : List Str) (L : List (Str × Nat × Nat)) : (netV ns L).low k = true := by
  have a : PV.lows k (ns.map PV.str) = true := low_all fun x hx => by obtain ⟨s, _, rfl⟩ := List.mem_map.mp hx; rfl
  have b : PV.lows k (L.map lineV) = true := low_all fun x hx => by obtain ⟨s, _, rfl⟩ := List.mem_map.mp hx; rfl
  simp only [netV, PV.low, PV.lows, a, b, Bool.true_and, Bool.and_true]
end AB

/-! AB14: walks over dicts that stand under a lock -/
namespace AB
open PySem PySem.Spec
open PyProof.Rows hiding St
open L2
section
variable {K : KW} {ρ : List Addr} {H : Hp} {p : Addr} {u : HO}
theorem RV.wr {x : PV} {v : V} (r : RV K ρ H x v) (ep : p ∈ ρ) : RV K ρ (upd H p u) x v := by
  have ne : ∀ q, q ∉ ρ → q ≠ p := fun q hq z => hq (z ▸ ep)
  induction r with
  | non => exact .non
  | bl b => exact .bl b
  | int i => exact .int i
  | str x => exact .str x
  | tup vs f n e ih =>
    refine .tup vs ?_ n ih
    rcases f with ⟨r, nq⟩ | c
    · refine .inl ⟨?_, nq⟩
      rcases r with r | ⟨o, r⟩
      · exact .inl (by rw [upd_ne (ne _ nq)]; exact r)
      · exact .inr ⟨o, by rw [upd_ne (ne _ nq)]; exact r⟩
    · exact .inr c
  | lst vs f n e ih => exact .lst vs ⟨by rw [upd_ne (ne _ f.2)]; exact f.1, f.2⟩ n ih
  | ro vs f n e ih =>
    refine .ro vs ?_ n ih
    rcases f with ⟨r, nq⟩ | c
    · refine .inl ⟨?_, nq⟩
      rcases r with r | ⟨o, r⟩
      · exact .inl (by rw [upd_ne (ne _ nq)]; exact r)
      · exact .inr ⟨o, by rw [upd_ne (ne _ nq)]; exact r⟩
    · exact .inr c
  | loc e => exact .loc e
  | raw v => exact .raw v
theorem RVs.wr {xs : List PV} {vs : List V} (r : RVs K ρ H xs vs) (ep : p ∈ ρ) : RVs K ρ (upd H p u) xs vs := ⟨r.len, fun i x v e1 e2 => (r.at_ i x v e1 e2).wr ep⟩
theorem RKV.wr {κ : Type} {xs : List (κ × PV)} {vs : List (κ × V)} (r : RKV K ρ H xs vs) (ep : p ∈ ρ) : RKV K ρ (upd H p u) xs vs := ⟨r.keys, r.vals.wr ep⟩
theorem RO.wr {a : Addr} {o : AO} (r : RO K ρ H a o) (ep : p ∈ ρ) (ne : a ≠ p) : RO K ρ (upd H p u) a o := by
  cases o with
  | lst xs => obtain ⟨vs, e1, q⟩ := r; exact ⟨vs, by rw [upd_ne ne]; exact e1, q.wr ep⟩
  | dK xs => obtain ⟨vs, e1, q⟩ := r; exact ⟨vs, by rw [upd_ne ne]; exact e1, q.wr ep⟩
  | dT xs => obtain ⟨vs, e1, q⟩ := r; exact ⟨vs, by rw [upd_ne ne]; exact e1, q.wr ep⟩
  | fK xs => obtain ⟨ob, vs, e1, q⟩ := r; exact ⟨ob, vs, by rw [upd_ne ne]; exact e1, q.wr ep⟩
theorem RS.wr {σ : ASt} {τ : St} (r : RS K ρ H σ τ) (ep : p ∈ ρ) : RS K ρ (upd H p u) σ τ := ⟨r.len, fun i x e => let ⟨v, e1, q⟩ := r.at_ i x e; ⟨v, e1, q.wr ep⟩⟩
/-- an object is written over, locked or not -/
theorem Rep.wr {h : AH} {n : Nat} {o : AO} (R : Rep K ρ h H) (e : ρ[n]? = some p) (r : RO K ρ (upd H p u) p o) : Rep K ρ (h.set n o) (upd H p u) := by
  have ep := List.mem_of_getElem? e
  refine ⟨R.nd, by simp [R.len], fun m b w e1 e2 => ?_⟩
  by_cases hm : n = m
  · subst hm
    rw [e] at e1; cases e1
    rw [List.getElem?_set_self (by rw [← R.len]; exact (List.getElem?_eq_some_iff.mp e).1)] at e2
    cases e2; exact r
  · rw [List.getElem?_set_ne hm] at e2
    refine (R.obj m b w e1 e2).wr ep fun z => hm ?_
    subst z
    exact (List.getElem?_inj (List.getElem?_eq_some_iff.mp e).1 R.nd).mp (e.trans e1.symm)
end
def keyPV : Key → PV
  | .inl i => .int i
  | .inr x => .str x
theorem keyPV_rv {K : KW} {ρ : List Addr} {H : Hp} (k : Key) : RV K ρ H (keyPV k) (kV k) := by
  cases k with
  | inl i => exact .int i
  | inr x => exact .str x
/-- the keys of a locked dict -/
def aItK (m : AE) : AIt := fun σ h => (m σ h).bind fun v h1 => match v with
  | .loc n => match h1[n]? with
    | some (.fK kvs) => .ok (itVals (kvs.map fun kv => keyPV kv.1)) h1
    | _ => .stuck
  | _ => .stuck
section
variable {X : Cx} {W : WX}
theorem ji_keys {tg e : Expr} {m : AE} (he : JE X W e m) : JI X W tg e (aItK m) :=
  ⟨PImono (pi_keys he.pe) fun τ H Rk ⟨ρ, h, σ, R, S, o⟩ => ⟨ρ, h, σ, R, S, (Out.bind (R := RV (cxKW X)) o).mono fun x H1 ⟨ρ1, v, h1, e1, R1, q1, o1⟩ => by
    split at o1
    · rename_i n
      split at o1
      · rename_i kvs eh
        obtain ⟨p, rfl, ep⟩ := q1.loc_inv
        obtain ⟨ob, vs, eH, q⟩ := R1.obj n p _ ep eh
        refine ⟨p, ob, rfl, .inl ⟨vs, eH, Out.done o1 R1 fun i ρ2 h2 H2 e2 R2 => ?_⟩⟩
        have f2 := e2.frz p ob _ eH
        have ek : ∀ j : Nat, (kvs.map fun kv => keyPV kv.1)[j]? = (vs[j]?).map fun kv => keyPV kv.1 := fun j => by
          have h1 : (kvs.map (·.1))[j]? = (vs.map (·.1))[j]? := by rw [q.keys]
          rw [List.getElem?_map, List.getElem?_map] at h1
          rw [List.getElem?_map]
          cases c : kvs[j]? <;> cases d : vs[j]? <;> rw [c, d] at h1 <;> simp at h1 ⊢
          rw [h1]
        show match some ((kvs.map fun kv => keyPV kv.1)[i]?) with | none => True | some none => _ | some (some x) => _
        rw [ek]
        cases c : vs[i]? with
        | none => exact ⟨f2, by have := List.getElem?_eq_none_iff.mp c; omega⟩
        | some kv =>
          refine ⟨⟨f2, (List.getElem?_eq_some_iff.mp c).1⟩, ?_⟩
          rintro w H3 ⟨rfl, k, y, ey, rfl⟩
          rw [c] at ey; cases ey
          exact ⟨.refl, R2, keyPV_rv k⟩
      · exact o1.elim
    · exact o1.elim⟩⟩
/-- behind the walk the dict is open again -/
def unl (n : Nat) (kvs : List (Key × PV)) : SRes → SRes
  | .fin f σ h => if h[n]? = some (.fK kvs) then .fin f σ (h.set n (.dK kvs)) else .stuck
  | _ => .stuck
def sForK (i : Nat) (g : AG) (body : AS) : AS := fun σ h => match σ[i]? with
  | some (some (.loc n)) => match h[n]? with
    | some (.dK kvs) => unl n kvs (sFor (aItK (aVar i)) g body σ (h.set n (.fK kvs)))
    | _ => .stuck
  | _ => .stuck
theorem js_lock {st : Stmt} {i : Nat} {g : AG} {body : AS} (hj : JS X W st (sFor (aItK (aVar i)) g body)) : JS X W st (sForK i g body) :=
  ⟨PSmono (ps_lock hj.ps) fun D τ H ⟨ρ, h, σ, R, S, o⟩ => by
    unfold sForK at o
    split at o
    · rename_i n es
      split at o
      · rename_i kvs eh
        obtain ⟨v, _, rv⟩ := S.at_ i _ es
        obtain ⟨p, rfl, ep⟩ := rv.loc_inv
        obtain ⟨vs, eH, q⟩ := R.obj n p _ ep eh
        refine ⟨p, .dK vs, eH, trivial, fun od => ?_⟩
        have x : Ext ρ H ρ (upd H p (.frz od (.dK vs))) := .write ep (nfK eH)
        refine ⟨ρ, h.set n (.fK kvs), σ, R.write (u := .fK kvs) ep (nfK eH) ⟨od, vs, upd_same, q.mono x⟩, S.mono x, ?_⟩
        generalize sFor (aItK (aVar i)) g body σ (h.set n (.fK kvs)) = r at o
        have pm := List.mem_of_getElem? ep
        have ext : ∀ {ρ' H'}, Ext ρ (upd H p (.frz od (.dK vs))) ρ' H' → Ext ρ H ρ' (upd H' p (.dK vs)) := fun {ρ' H'} e => ⟨e.pre, fun y o e1 nq => by
            have ne : y ≠ p := fun z => nq (z ▸ pm)
            rw [upd_ne ne]
            exact e.old y o (by rw [upd_ne ne]; exact e1) nq, fun y ob w e1 => by
            have ne : y ≠ p := fun z => by subst z; rw [eH] at e1; cases e1
            rw [upd_ne ne]
            exact e.frz y ob w (by rw [upd_ne ne]; exact e1)⟩
        have rep : ∀ {ρ' H' h2}, Ext ρ (upd H p (.frz od (.dK vs))) ρ' H' → Rep (cxKW X) ρ' h2 H' → h2[n]? = some (.fK kvs) → Rep (cxKW X) ρ' (h2.set n (.dK kvs)) (upd H' p (.dK vs)) := fun {ρ' H' h2} e R2 e2 => by
          have ep2 := e.get ep
          obtain ⟨ob, ws, eW, q2⟩ := R2.obj n p _ ep2 e2
          have := e.frz p od _ upd_same
          rw [this] at eW
          cases eW
          exact R2.wr ep2 ⟨vs, upd_same, q2.wr (List.mem_of_getElem? ep2)⟩
        cases r with
        | fin f σ2 h2 =>
          unfold unl at o
          dsimp only at o
          split at o
          · rename_i c
            cases f with
            | nx => exact fun ρ' τ' H' e R2 S2 => ⟨e.frz p od _ upd_same, o ρ' τ' _ (ext e) (rep e R2 c) (S2.wr (List.mem_of_getElem? (e.get ep)))⟩
            | bk => exact fun ρ' τ' H' e R2 S2 => ⟨e.frz p od _ upd_same, o ρ' τ' _ (ext e) (rep e R2 c) (S2.wr (List.mem_of_getElem? (e.get ep)))⟩
            | ct => exact fun ρ' τ' H' e R2 S2 => ⟨e.frz p od _ upd_same, o ρ' τ' _ (ext e) (rep e R2 c) (S2.wr (List.mem_of_getElem? (e.get ep)))⟩
            | rt v => exact fun ρ' x' H' e R2 r2 => ⟨e.frz p od _ upd_same, o ρ' x' _ (ext e) (rep e R2 c) (r2.wr (List.mem_of_getElem? (e.get ep)))⟩
          · exact o.elim
        | exc c fs σ2 h2 => exact o.elim
        | stuck => exact o.elim
      · exact o.elim
    · exact o.elim⟩
/-- d[k] of a locked dict -/
def fDgetF : F2
  | .loc n, k, h => match h[n]?, keyP k with
    | some (.fK kvs), some key => match valP kvs key with
      | some v => .ok v h
      | none => .stuck
    | _, _ => .stuck
  | _, _, _ => .stuck
theorem je_dgetF {o i : Expr} {mo mi : AE} {pos : Pos} (hu : X.A.units + 1 < cLine) (ho : JE X W o mo) (hi : JE X W i mi) (hs : NoSl i := by exact fun _ _ => rfl) : JE X W (.Subscript o i pos) (aOp fDgetF mo mi) :=
  ⟨PEmono (pe_dget hu ho.pe hi.pe hs) fun τ H Q ⟨ρ, h, σ, R, S, o⟩ => ⟨ρ, h, σ, R, S, (Out.bind (R := RV (cxKW X)) o).mono fun x H1 ⟨ρ1, v, h1, e1, R1, q1, o1⟩ => ⟨ρ1, h1, σ, R1, S.mono e1, (Out.bind (R := RV (cxKW X)) o1).mono fun y H2 ⟨ρ2, u, h2, e2, R2, q2, o2⟩ => by
    unfold fDgetF at o2
    split at o2
    · rename_i n
      split at o2
      · rename_i kvs key eh ek
        split at o2
        · rename_i v ev
          obtain ⟨p, rfl, ep⟩ := (q1.mono e2).loc_inv
          obtain ⟨ob, vs, eH, r⟩ := R2.obj _ p _ ep eh
          have ey := keyP_of ek q2
          subst ey
          rcases r.val key with ⟨z, _⟩ | ⟨x', v', z1, z2, z3⟩
          · rw [ev] at z; cases z
          · rw [ev] at z1; cases z1
            exact ⟨p, v', rfl, by rw [← z2]; exact .inl ⟨vs, key, .inr ⟨ob, eH⟩, rfl, rfl⟩, Out.done o2 R2 z3⟩
        · exact o2.elim
      · exact o2.elim
    · exact o2.elim⟩⟩⟩
end
end AB

/-! AB15: comprehensions with two fors -/
namespace AB
open PySem PySem.Spec
open PyProof.Rows hiding St
open L2
section
variable {X : Cx} {W : WX} {K : KW}
/-- the inner turns: the heap behind them -/
def lcI (a : AI) (vs : List Nat) (g : AG) (t : AT) (e : AE) (σ : ASt) (d : Nat) : Nat → Nat → AH → Option AH
  | n, j, h => match a.nxt j h with
    | none => none
    | some none => some h
    | some (some x) => match n with
      | 0 => none
      | n + 1 => match g x (wipeA σ vs) h with
        | none => none
        | some (σ1, h1) => match t σ1 h1 with
          | .ok true h2 => match e σ1 h2 with
            | .ok y h3 => match h3[d]? with
              | some (.lst acc) => if acc.length < sizeLine then lcI a vs g t e σ d n (j + 1) (h3.set d (.lst (acc ++ [y]))) else none
              | _ => none
            | _ => none
          | .ok false h2 => lcI a vs g t e σ d n (j + 1) h2
          | _ => none
def lcO (a : AI) (vs : List Nat) (g : AG) (t : AT) (m1 : AIt) (vs1 : List Nat) (g1 : AG) (t1 : AT) (e : AE) (σ : ASt) (d : Nat) : Nat → Nat → AH → Res PV
  | n, i, h => match a.nxt i h with
    | none => .stuck
    | some none => .ok (.loc d) h
    | some (some x) => match n with
      | 0 => .stuck
      | n + 1 => match g x (wipeA σ vs) h with
        | none => .stuck
        | some (σ1, h1) => match t σ1 h1 with
          | .ok true h2 => match m1 σ1 h2 with
            | .ok a1 h3 => match lcI a1 vs1 g1 t1 e σ1 d a1.n 0 h3 with
              | some h4 => lcO a vs g t m1 vs1 g1 t1 e σ d n (i + 1) h4
              | none => .stuck
            | _ => .stuck
          | .ok false h2 => lcO a vs g t m1 vs1 g1 t1 e σ d n (i + 1) h2
          | _ => .stuck
def aLc2 (m : AIt) (vs : List Nat) (g : AG) (t : AT) (m1 : AIt) (vs1 : List Nat) (g1 : AG) (t1 : AT) (e : AE) : AE := fun σ h => (m σ h).bind fun a h1 => lcO a vs g t m1 vs1 g1 t1 e σ h1.length a.n 0 (h1 ++ [.lst []])
theorem wipe_wipe (τ : St) (vs : List Nat) : L2.wipe (L2.wipe τ vs) vs = L2.wipe τ vs := by
  have : ∀ (us : List Nat), (∀ u ∈ us, u ∈ vs) → L2.wipe (L2.wipe τ us) vs = L2.wipe τ vs := by
    intro us
    induction us with
    | nil => intro _; rfl
    | cons u us ih =>
      intro hu
      show L2.wipe ((L2.wipe τ us).set u none) vs = _
      rw [wipe_comm _ u none vs (hu u List.mem_cons_self)]
      exact ih fun z hz => hu z (List.mem_cons_of_mem _ hz)
  exact this vs fun _ hz => hz
abbrev GW (K : KW) (vs : List Nat) (g : AG) : TG := fun v τ H Q => ∃ ρ h σ x, Rep K ρ h H ∧ RS K ρ H σ τ ∧ RV K ρ H x v ∧ OutG K ρ H (g x σ h) fun τ' H' => L2.wipe τ' vs = L2.wipe τ vs → Q τ' H'
theorem le_lc2 {m m1 : AIt} {vs vs1 : List Nat} {g g1 : AG} {t t1 : AT} {e : AE} {τ : St} {H : Hp} {Q : VK} (o : LE K W (aLc2 m vs g t m1 vs1 g1 t1 e) τ H Q) :
    tLc2 (LI K W m) (GW K vs g) (LT K W0 t) (LI K W0 m1) (GW K vs1 g1) (LT K W0 t1) (LE K W0 e) vs vs1 τ H Q := by
  obtain ⟨ρ, h, σ, R, S, o⟩ := o
  refine ⟨ρ, h, σ, R, S, (Out.bind (R := AIok K) o).mono fun J H1 ⟨ρ1, a, h1, e1, R1, q1, o1⟩ => ?_⟩
  intro D hD
  have x1 : Ext ρ1 H1 (ρ1 ++ [D]) (upd H1 D (.lst [])) := .push hD
  have R1' : Rep K (ρ1 ++ [D]) (h1 ++ [.lst []]) (upd H1 D (.lst [])) := R1.push hD ⟨[], upd_same, .nil⟩
  have ed : (ρ1 ++ [D])[h1.length]? = some D := by rw [← R1.len]; simp
  have S1 := (S.mono e1).mono x1
  let Wo : Nat → Nat → Hp → Prop := fun i n H => ∃ ρ h, Ext (ρ1 ++ [D]) (upd H1 D (.lst [])) ρ H ∧ Rep K ρ h H ∧ OutE K W ρ τ H (lcO a vs g t m1 vs1 g1 t1 e σ h1.length n i h) Q
  refine ⟨Wo, ⟨a.n, ρ1 ++ [D], _, .refl, R1', Out.later o1 x1⟩, ?_⟩
  rintro i n H2 ⟨ρ2, h2, e2, R2, o2⟩
  have q2 := q1 i ρ2 h2 H2 (x1.trans e2) R2
  unfold lcO at o2
  cases c : a.nxt i h2 with
  | none => rw [c] at o2; exact o2.elim
  | some ox =>
    rw [c] at o2 q2
    cases ox with
    | none => exact .inl ⟨q2, Out.done o2 R2 (.loc (e2.get ed))⟩
    | some x =>
      cases n with
      | zero => exact o2.elim
      | succ n =>
        refine .inr ⟨q2.1, Wo (i + 1) n, fun H' k => ⟨n, Nat.lt_succ_self _, k⟩, fun v H3 y => ?_⟩
        obtain ⟨e3, R3, r3⟩ := q2.2 v H3 y
        have e03 := e2.trans e3
        refine ⟨ρ2, h2, wipeA σ vs, x, R3, (S1.mono e03).wipe vs, r3, ?_⟩
        dsimp only at o2
        cases cg : g x (wipeA σ vs) h2 with
        | none => rw [cg] at o2; exact o2.elim
        | some p =>
          obtain ⟨σ4, h4⟩ := p
          rw [cg] at o2
          intro ρ4 τ4 H4 e4 R4 S4 w4
          refine ⟨w4.trans (wipe_wipe τ vs), ρ4, h4, σ4, R4, S4, ?_⟩
          dsimp only at o2
          cases ct : t σ4 h4 with
          | exc _ _ _ => rw [ct] at o2; exact o2.elim
          | stuck => rw [ct] at o2; exact o2.elim
          | ok k h5 =>
            rw [ct] at o2
            intro ρ5 H5 b e5 R5 eb
            subst eb
            have e05 := e3.trans (e4.trans e5)
            cases k with
            | false =>
              rw [if_neg Bool.false_ne_true]
              exact ⟨ρ5, h5, e2.trans e05, R5, Out.later o2 e05⟩
            | true =>
              rw [if_pos rfl]
              dsimp only at o2
              refine ⟨ρ5, h5, σ4, R5, S4.mono e5, ?_⟩
              cases cm : m1 σ4 h5 with
              | exc _ _ _ => rw [cm] at o2; exact o2.elim
              | stuck => rw [cm] at o2; exact o2.elim
              | ok a1 h6 =>
                rw [cm] at o2
                dsimp only at o2
                intro ρ6 H6 J1 e6 R6 q6
                cases cE : lcI a1 vs1 g1 t1 e σ4 h1.length a1.n 0 h6 with
                | none => rw [cE] at o2; exact o2.elim
                | some hE =>
                  rw [cE] at o2
                  dsimp only at o2
                  have e06 := e05.trans e6
                  have S6 := (S4.mono e5).mono e6
                  let Wi : Nat → Nat → Hp → Prop := fun j k H => ∃ ρ h, Ext ρ6 H6 ρ H ∧ Rep K ρ h H ∧ lcI a1 vs1 g1 t1 e σ4 h1.length k j h = some hE
                  refine ⟨Wi, ⟨a1.n, ρ6, h6, .refl, R6, cE⟩, ?_⟩
                  rintro j k H7 ⟨ρ7, h7, e7, R7, c7⟩
                  have q7 := q6 j ρ7 h7 H7 e7 R7
                  unfold lcI at c7
                  cases cn : a1.nxt j h7 with
                  | none => rw [cn] at c7; cases c7
                  | some oy =>
                    rw [cn] at c7 q7
                    cases oy with
                    | none =>
                      cases c7
                      exact .inl ⟨q7, ρ7, _, (e2.trans e06).trans e7, R7, Out.later o2 (e06.trans e7)⟩
                    | some x2 =>
                      cases k with
                      | zero => cases c7
                      | succ k =>
                        refine .inr ⟨q7.1, Wi (j + 1) k, fun H' z => ⟨k, Nat.lt_succ_self _, z⟩, fun v2 H8 y2 => ?_⟩
                        obtain ⟨e8, R8, r8⟩ := q7.2 v2 H8 y2
                        have e68 := e7.trans e8
                        refine ⟨ρ7, h7, wipeA σ4 vs1, x2, R8, (S6.mono e68).wipe vs1, r8, ?_⟩
                        dsimp only at c7
                        cases cg2 : g1 x2 (wipeA σ4 vs1) h7 with
                        | none => rw [cg2] at c7; cases c7
                        | some p2 =>
                          obtain ⟨σ9, h9⟩ := p2
                          rw [cg2] at c7
                          intro ρ9 τ9 H9 e9 R9 S9 w9
                          refine ⟨w9.trans (wipe_wipe _ vs1), ρ9, h9, σ9, R9, S9, ?_⟩
                          dsimp only at c7
                          cases ct2 : t1 σ9 h9 with
                          | exc _ _ _ => rw [ct2] at c7; cases c7
                          | stuck => rw [ct2] at c7; cases c7
                          | ok b2 h10 =>
                            rw [ct2] at c7
                            intro ρ10 H10 b' e10 R10 eb2
                            subst eb2
                            have e610 := e68.trans (e9.trans e10)
                            cases b2 with
                            | false =>
                              rw [if_neg Bool.false_ne_true]
                              exact ⟨ρ10, h10, e610, R10, c7⟩
                            | true =>
                              rw [if_pos rfl]
                              dsimp only at c7
                              refine ⟨ρ10, h10, σ9, R10, S9.mono e10, ?_⟩
                              cases ce : e σ9 h10 with
                              | exc _ _ _ => rw [ce] at c7; cases c7
                              | stuck => rw [ce] at c7; cases c7
                              | ok y3 h11 =>
                                rw [ce] at c7
                                dsimp only at c7
                                intro ρ11 H11 v11 e11 R11 r11
                                split at c7
                                · rename_i acc ea
                                  split at c7
                                  · rename_i hz
                                    have e611 := e610.trans e11
                                    have ep := ((e2.trans e06).trans e611).get ed
                                    obtain ⟨us, eu, q⟩ := R11.obj _ _ _ ep ea
                                    refine ⟨us, eu, by rw [q.len]; exact hz, ?_⟩
                                    have x12 : Ext ρ11 H11 ρ11 (upd H11 D (.lst (us ++ [v11]))) := .write ep (nfL eu)
                                    exact ⟨ρ11, _, e611.trans x12, R11.write (u := .lst (acc ++ [y3])) ep (nfL eu) ⟨_, upd_same, (q.append (.cons r11 .nil)).mono x12⟩, c7⟩
                                  · cases c7
                                · cases c7
theorem je_lc2 {elt tg iter tg1 iter1 : Expr} {ifs ifs1 : List Expr} {scope : Scope} {own : List (Str × Nat)} {vs1 : List Nat} {pos : Pos} {m m1 : AIt} {g g1 : AG} {t t1 : AT} {e : AE} (hc : X.calm = true) (hN : X.N.Nodup) (hi : JI X W tg iter m) (ok : BlkOk X.N X.env.scope scope own) (hv : ∀ i ∈ vs1, i ∈ own.map (·.2))
    (hg : ∀ (s : Shared) (H : Hp) (C : Addr) (cl : List (Str × Addr)) (fp : List Addr), JGw (Blk X scope s H C cl fp) (own.map (·.2)) tg g) (ht : ∀ (s : Shared) (H : Hp) (C : Addr) (cl : List (Str × Addr)) (fp : List Addr), JTs (Blk X scope s H C cl fp) W0 ifs t)
    (hi1 : ∀ (s : Shared) (H : Hp) (C : Addr) (cl : List (Str × Addr)) (fp : List Addr), JI (Blk X scope s H C cl fp) W0 tg1 iter1 m1)
    (hg1 : ∀ (s : Shared) (H : Hp) (C : Addr) (cl : List (Str × Addr)) (fp : List Addr), JGw (Blk X scope s H C cl fp) vs1 tg1 g1) (ht1 : ∀ (s : Shared) (H : Hp) (C : Addr) (cl : List (Str × Addr)) (fp : List Addr), JTs (Blk X scope s H C cl fp) W0 ifs1 t1)
    (he : ∀ (s : Shared) (H : Hp) (C : Addr) (cl : List (Str × Addr)) (fp : List Addr), JE (Blk X scope s H C cl fp) W0 elt e) (hs : ∀ x, foldedSetIterable iter X.env x = pure x := by intro _; rfl) (hs1 : ∀ env x, foldedSetIterable iter1 env x = pure x := by intro _ _; rfl) :
    JE X W (.ListComp elt [⟨tg, iter, ifs, 0⟩, ⟨tg1, iter1, ifs1, 0⟩] scope pos) (aLc2 m (own.map (·.2)) g t m1 vs1 g1 t1 e) :=
  ⟨PEmono (pe_lc2 (own := own) hc hN hi.pi ok hv (fun s H C cl fp => (hg s H C cl fp).pg) (fun s H C cl fp => (ht s H C cl fp).pt) (fun s H C cl fp => (hi1 s H C cl fp).pi) (fun s H C cl fp => (hg1 s H C cl fp).pg) (fun s H C cl fp => (ht1 s H C cl fp).pt) (fun s H C cl fp => (he s H C cl fp).pe) hs hs1) fun τ H Q o => le_lc2 o⟩
end
end AB

/-! AB16: an own error whose __init__ says super().__init__(..): its def -/
namespace AB
open PySem PySem.Spec
open PyProof.Rows hiding St
open L2 NdefX

theorem ldN_var {X : Cx} {pins : List (Addr × Obj)} {s : Shared} {σ : St} {H : Hp} {i : Nat} {x : Str} {v : V} {E : Value → Shared → Prop} {A : Around} {Q : Value → Shared → Prop} (I : Inv X pins σ H s) (hN : X.N[i]? = some x) (hv : Vis X.env.scope x)
    (e : σ[i]? = some (some v)) (h : ∀ u, RelV v u → Q u s) (hcd : (x == ("__classdict__" : Str)) = false := by decide) : wpAny (model X.prog X.w) A (loadName X.env x) Q E s := by
  obtain ⟨m, hn, hl⟩ := I.loc
  obtain ⟨u, r, l⟩ := hl i x v hN e hv
  rcases l with ⟨hk, hm⟩ | ⟨hk, c, hc, hcell⟩
  · exact wpAny_loadName_local I.ok.kind hk hn hm (h u r)
  · rcases hk with hk | hk
    · exact wpAny_loadName_cell I.ok.kind hk hc hcell (h u r)
    · exact wpAny_loadName_free I.ok.kind hk hc hcell (h u r) hcd
theorem ldN_blt {X : Cx} {E : Value → Shared → Prop} {A : Around} {pins : List (Addr × Obj)} {s : Shared} {σ : St} {H : Hp} {x : Str} {u : Value} {Q : Value → Shared → Prop} (I : Inv X pins σ H s) (hg : Gl X x) (hm : X.mg x = none) (hv : bootBuiltins x = some u) (h : Q u s)
    (hn : x ≠ "__name__" := by decide) : wpAny (model X.prog X.w) A (loadName X.env x) Q E s := by
  obtain ⟨mb, h1, h2⟩ := I.mod.blt
  have k := I.ok.kind
  have g : wpAny (model X.prog X.w) A (loadGlobal X.env x) Q E s := Calls.loadGlobal_builtin (by rw [I.ok.glob]; exact I.mod.glob.keeps I.bk) hm (by rw [I.ok.blt]; exact h1.keeps I.bk) ((h2 x hn).trans hv) h
  unfold loadName
  have hg' : X.env.kindOf x = some .globalImplicit := hg
  simp only [Env.blockKind, k, hg', ScopeKind.isAnnotationScope, Bool.false_and, Bool.false_eq_true, if_false]
  exact g

/-- what the written part says of an own error class over ValueError -/
structure ErrC (K : PySem.W.Frag) (C : Addr) : Prop where
  x : OexC K C
  op : PySem.W.nsIn K PySem.cStatics "thirdparty.any" = some none
  subC : PySem.W.subIn K (.ref C) (.ref C) = some true
  sup : PySem.W.ks_superIn K C C "__init__" = some (some (.builtin "ValueError.__init__"))
  subV : PySem.W.subIn K (.ref C) (.type "ValueError") = some true

theorem upd_self {H : Hp} {a : Addr} {o : HO} (e : H a = some o) : upd H a o = H := by
  funext b
  by_cases hb : b = a
  · rw [hb, upd_same, e]
  · rw [upd_ne hb]

/-- the bound ValueError.__init__ called -/
theorem mw_call {X : Cx} {pins : List (Addr × Obj)} {σ : St} {H : Hp} {s : Shared} {a C u : Addr} {us : List Value} {A : Around} {E : Value → Shared → Prop} {Q : Value → Shared → Prop} (T : OexC X.K C) (I : Inv X pins σ H s) (e : H a = some (exo a C none)) (hu : s.heap.get? u = some (PySem.W.kxs_mw "ValueError.__init__" a))
    (hl : us.length ≤ sizeLine) (h : ∀ s', Inv X pins σ H s' → Q .none s') : wpAny (model X.prog X.w) A (call (.ref u) us) Q E s := by
  obtain ⟨nm, q, N, bs, bm, sn, sub, ab, col, dd, k0, k1, k2, k3, k5, hC, hbm⟩ := T.cls
  obtain ⟨t1, ho⟩ := exo_at I.hok e
  have hC' := I.kIn _ _ hC
  obtain ⟨hp, g, d, t, os⟩ := s
  refine wpAny_call (codeAny_of_tree ?_)
  show wpAny _ A.in1 (callAny (.ref u) ⟨us, []⟩) _ _ _
  simp only [callAny]
  refine wpAny_bind (wpAny_load hu ?_)
  simp only [PySem.W.kxs_mw, show (Value.type "method-wrapper" == Value.type "method" || Value.type "method-wrapper" == Value.type "builtin_function_or_method" || Value.type "method-wrapper" == Value.type "method-wrapper") = true by decide, if_true]
  refine PySem.W.KFB.if_so (by decide) ?_
  refine wpAny_bind (PySem.W.check_bound_init PySem.F.excBase_ValueError.toExcCallFacts hC' ho rfl ?_)
  refine wpAny_bind (wpAny_pure (wpAny_pure ?_))
  refine ⟨plainId_quiet PySem.F.excBase_ValueError.init.plain _, codeAny_builtin PySem.F.excBase_ValueError.initEntry ?_⟩
  refine PySem.W.exc_init_tree (cls := .ref C) (t0 := t1) (dv := none) (c2 := .none) (c3 := .none) (b4 := .bool false) ho hl fun h' k hx _ => ?_
  have J := I.write (t' := t) (x := a) (e := a) (o := exo a C none) (by rw [e]; exact True.intro) (.inl rfl) k ⟨_, hx⟩ (exo_ok hx)
  rw [upd_self e] at J
  exact h _ J

section
variable {CX : CXT} {P : Program} {w : World} {K : PySem.W.Frag} {mg : Str → Option Value} {base : Heap} {N ps : List Str} {F : NF} {f C cc : Addr} {k : Nat} {sp : Sp}
/-- a def whose first statement is super().__init__(e, ..): T the class, its cell __class__ -/
theorem fn_init {doc pm ctv oc occ : Value} {od odc : Option Addr} {osl slc : Array (Option Value)} {e : Expr} {es : List Expr} {rest : List Stmt} {p0 p1 p2 p3 p4 : Pos} {ta : TA} {tr : TS} {self0 : Str} {file : Str} {tf : Tok} {cvs : Array Value} {coc : Value} {cod : Option Addr} {cosl : Array (Option Value)}
    (T : ErrC K C) (S : NScope N ps ["__class__"] F.scope) (hps : ps.head? = some self0) (hs0 : (self0 == ("__classdict__" : Str)) = false) (lk : K.lookup f = some ⟨oc, od, .func (F.fd doc pm ctv), osl⟩) (hcl : F.cl = [(("__class__" : Str), cc)]) (lc : K.lookup cc = some ⟨occ, odc, .cell (some (.ref C)), slc⟩)
    (hcd : PySem.W.codeIn K (.ref F.c) F.qual = true) (lcd : K.lookup F.c = some ⟨coc, cod, .fields cvs, cosl⟩) (hvs : cvs[2]? = some (.str file tf)) (hfile : ((P.main.file : Str) == file) = true) (htop : (P.main.scope.names.lookup ("super" : Str)).isSome = false)
    (hbd : F.body = .Expr (.Call (.Attribute (.Call (.Name "super" p0) [] [] p1) "__init__" p2) (e :: es) [] p3) p4 :: rest) (hsup : F.scope.names.lookup ("super" : Str) = some NameKind.globalImplicit) (hmg : mg "super" = none)
    (hpar : (F.params.posonlyargs ++ F.params.args).head?.map (·.arg) = some self0)
    (len : ∀ vs H Q E, sp vs H Q E → vs.length = ps.length)
    (hself : ∀ vs H Q E, sp vs H Q E → ∃ a ws, vs = .ref a :: ws ∧ H a = some (exo a C none))
    (hargs : ∀ (A : Around) (outer : List Env) (s : Shared) (H : Hp) (E : XK), PA (ncx CX P w K mg base N F f A outer s H E) (e :: es) ta)
    (hrest : ∀ (A : Around) (outer : List Env) (s : Shared) (H : Hp) (E : XK), PSs (ncx CX P w K mg base N F f A outer s H E) rest tr)
    (hq : ∀ vs H Q E a ws, sp vs H Q E → vs = .ref a :: ws → H a = some (exo a C none) → ta (startF N vs [some (.ref C)]) H fun us H1 => us.length ≤ 1000 ∧ H1 a = some (exo a C none) ∧ tr { nx := fun _ H' => Q .non H', rt := Q } (startF N vs [some (.ref C)]) H1)
    (hev : ∀ env : Env, ∃ pl : Sem Bool, eval (.Call (.Attribute (.Call (.Name "super" p0) [] [] p1) "__init__" p2) (e :: es) [] p3) env = (do
      let ov ← attributeBase (.Call (.Name "super" p0) [] [] p1) "__init__" env (eval (.Call (.Name "super" p0) [] [] p1) env)
      standAt p2.atName
      let (f, first) ← holding [ov] (getMethod ov "__init__" pl)
      callWith p3 f first (backTo p3 (starEach (e :: es) env)) []))
    (he : ∀ env : Env, starEach (e :: es) env = (false, eval e env) :: starEach es env := by intro env; rfl) (hpl : ∀ (env : Env) (pos : Pos), (backTo pos (starEach es env)).any (·.1) = false := by intro env pos; rfl) :
    FnOk P w K mg base CX (k + 1) f (F.fd doc pm ctv) ps sp := by
  refine ⟨len, fun A outer s H args us vs Q E hr e0 hb r hsp => ?_⟩
  have hl := len _ _ _ _ hsp
  have KX : K.In s.heap := e0.mod.kin.keeps fun b o e => (e0.bs b o e).1
  have lim : s.heap.NoLimit := e0.mod.nolimit.keeps fun b o e => (e0.bs b o e).1
  obtain ⟨a, ws, ev, ea⟩ := hself _ _ _ _ hsp
  have hqq := hq _ _ _ _ a ws hsp ev ea
  refine PySem.ks_codeAny_call_defAt (hco := S.co) (hgen := S.gen) (hk := S.kind) hr.depth (KX _ _ lk) rfl lim (PySem.W.codeRec_of KX hcd) rfl hb S.nocell (fun ⟨n, v⟩ hy => S.par n (List.of_mem_zip hy).1) fun h₁ hns kp => ?_
  have CA : CellsAt F.cl ["__class__"] [some (V.ref C)] s.heap H := by
    rw [hcl]
    have one : ∀ {x : Str} {c : Addr}, ([(("__class__" : Str), cc)] : List (Str × Addr)).lookup x = some c → x = "__class__" ∧ c = cc := fun {x c} q => by
      rw [List.lookup_cons] at q
      by_cases hx : x = "__class__"
      · subst hx
        simp at q
        exact ⟨rfl, q.symm⟩
      · have : (x == ("__class__" : Str)) = false := by simpa using hx
        rw [this] at q
        cases q
    refine ⟨rfl, fun y c q => ?_, fun x y c q1 q2 => (one q1).1.trans (one q2).1.symm, fun i y q => ?_⟩
    · obtain ⟨_, rfl⟩ := one q
      exact ⟨(e0.bs _ _ (e0.mod.kin _ _ lc)).2, some (.ref C), _, KX _ _ lc, rfl⟩
    · cases i with
      | succ i => cases q
      | zero =>
        cases q
        refine ⟨cc, by simp, fun v q => ?_⟩
        cases q
        exact ⟨.ref C, rfl, _, KX _ _ lc, rfl⟩
  have I : Inv (ncx CX P w K mg base N F f A outer s H E) [] (startF N vs [some (.ref C)]) H { s with heap := h₁, toks := s.toks + (ps.zip us).length } := inv_startN S hr.hd e0 hl r CA hns kp
  have env_eq : PySem.callEnv (F.fd doc pm ctv) s.heap.objs.size f = envF F f s.heap.objs.size := rfl
  rw [env_eq, hbd]
  have hN0 : N[0]? = some self0 := by
    have q := S.pre
    cases ps with
    | nil => cases hps
    | cons p ps =>
      cases hps
      cases N with
      | nil => cases q
      | cons n N => simp at q; rw [q.1]; rfl
  have hpos : 0 < ps.length := by
    cases ps with
    | nil => cases hps
    | cons p ps => exact Nat.succ_pos _
  have hself0 : self0 ∈ ps := by
    cases ps with
    | nil => cases hps
    | cons p ps => cases hps; exact List.mem_cons_self
  have hNc : N[ps.length]? = some ("__class__" : Str) := by
    have q : (N.take (ps.length + 1))[ps.length]? = (ps ++ [("__class__" : Str)])[ps.length]? := by rw [← S.pre]; rfl
    rw [List.getElem?_take_of_lt (by omega), List.getElem?_append_right (by omega), Nat.sub_self] at q
    exact q
  have sg0 : (startF N vs [some (V.ref C)])[0]? = some (some (V.ref a)) := by rw [ev]; rfl
  have sgc : (startF N vs [some (V.ref C)])[ps.length]? = some (some (V.ref C)) := by
    unfold startF
    rw [List.getElem?_append_right (by rw [List.length_map]; omega), List.length_map, hl, Nat.sub_self]
    rfl
  obtain ⟨nm, q, Nn, bs, bm, sn, sub, ab, col, dd, k0, k1, k2, k3, k5, hC, hbm⟩ := T.x.cls
  obtain ⟨t1, hx⟩ := exo_at I.hok ea
  have KX1 := I.kIn
  obtain ⟨par, hpar1, hpar2⟩ : ∃ par, (F.params.posonlyargs ++ F.params.args).head? = some par ∧ par.arg = self0 := by
    cases h : (F.params.posonlyargs ++ F.params.args).head? with
    | none => rw [h] at hpar; cases hpar
    | some p => rw [h] at hpar; cases hpar; exact ⟨p, rfl, rfl⟩
  obtain ⟨pl, hev⟩ := hev (envF F f s.heap.objs.size)
  refine PySem.ks_wpAt_execs_cons (PySem.ks_wpAt_Expr_any (hi := by unfold PySem.interactive; simp [S.kind]) (PySem.ks_wpAt_MethodCall (he := hev) (PySem.ks_wpAt_super_base (ar := par) (f := f) (cc := F.c) hsup (S.frk _ List.mem_cons_self) rfl rfl (KX1 _ _ lk) rfl hpar1 rfl (KX1 _ _ lcd) rfl hvs hfile htop ?_)))
  refine ldN_blt I hsup hmg (by rfl) ⟨rfl, ?_⟩
  refine ldN_var I hNc (.inr (.inr (S.frk _ List.mem_cons_self))) sgc fun u1 ru1 => ?_
  obtain rfl : u1 = Value.ref C := ru1
  rw [hpar2]
  refine ldN_var I hN0 (.inl (S.par _ hself0)) sg0 (fun u2 ru2 => ?_) ?hcd
  case hcd => exact hs0
  obtain rfl : u2 = Value.ref a := ru2
  refine PySem.ks_wpAny_isType_cls (KX1 _ _ hC) rfl ⟨rfl, ?_⟩
  refine PySem.ks_wpAny_call_super (KX1 _ _ hC) rfl hx rfl (fun c q => nomatch q) (PySem.W.looks_subIn KX1 T.subC) fun h2 hso k2 => ?_
  have I2 := I.kept (t' := s.toks + (ps.zip us).length) k2
  have hx2 := k2 _ _ hx
  have X2 := I2.kIn
  have IA : PySem.W.InstAt h2 a { cls := .ref C, dict := none, data := .fields #[.ref t1, .none, .none, .none, .bool false, .none] } C none := ⟨hx2, rfl, rfl, trivial⟩
  cases hc : PySem.W.clsIn K C with
  | none =>
    have := T.sup
    unfold PySem.W.ks_superIn at this
    rw [hc] at this
    cases this
  | some cd =>
    have hsup' := T.sup
    unfold PySem.W.ks_superIn at hsup'
    rw [hc] at hsup'
    have hmro : PySem.W.Looks (model P w) h2 (mroOf (.ref C)) cd.mro := fun A Q E s k q => wpAny_bind ((PySem.W.looks_clsIn X2 hc) A _ E s k (wpAny_pure q))
    refine PySem.W.kxs_getMethod PySem.W.kxs_ValueError hso (PySem.W.looks_opaque X2 T.op) (l₀ := cd.mro) hmro rfl X2 hsup' (IA.type.andThen (PySem.W.looks_subIn X2 T.subV)) (PySem.W.ks_ne X2 IA hc) rfl ?_
    have I3 := I2.kept (t' := s.toks + (ps.zip us).length + 1) (h' := h2.push (PySem.W.kxs_mw "ValueError.__init__" a)) (fun b u e => Heap.get?_push_of_some _ e)
    have hu3 : (h2.push (PySem.W.kxs_mw "ValueError.__init__" a)).get? h2.objs.size = some (PySem.W.kxs_mw "ValueError.__init__" a) := Heap.get?_push_at rfl rfl
    have I4 : Inv (ncx CX P w K mg base N F f A outer s H E) [(h2.objs.size, PySem.W.kxs_mw "ValueError.__init__" a)] (startF N vs [some (V.ref C)]) H _ := I3.pins_of fun p hp => by
      obtain rfl := List.mem_singleton.mp hp
      refine ⟨hu3, I2.hok.fresh (Nat.le_refl _), fun z => ?_, fun hm => ?_, fun v z => nomatch z⟩
      · obtain ⟨m, ⟨o, es1, es2, e1, _⟩, _⟩ := I2.loc
        have y := Heap.lt_size e1
        rw [← z] at y
        exact Nat.lt_irrefl _ y
      · obtain ⟨_, o', e', _⟩ := I2.ok.funs.mem hm
        obtain ⟨o2, e2⟩ := I2.base.there _ _ e' (by show _ ∉ ([] : List Addr); simp)
        exact Nat.lt_irrefl _ (Heap.lt_size e2)
    have run := (hargs A outer s H E).run p3 _ _ _ H _ I4 hqq
    have hpl' : ((backTo p3 (starEach (e :: es) (envF F f s.heap.objs.size))).any (·.1)) = false := by
      rw [he]
      show (false || (backTo p3 (starEach es (envF F f s.heap.objs.size))).any (·.1)) = false
      rw [hpl]
      rfl
    refine PySem.W.kxs_callWith (i := "ValueError.__init__") (x := a) hpl' ?_
    rw [he] at run ⊢
    refine PySem.Calls.evalArgs_plain (wpAny_mono run (fun us1 s4 h4 => ?_) fun _ _ z => z)
    obtain ⟨vs1, H1, J1, r1, hz, ea1, q1⟩ := h4
    have hu4 := (J1.pin _ (List.mem_append_right _ (List.mem_singleton.mpr rfl))).1
    refine ⟨hu4, ?_⟩
    have hlen : us1.length ≤ sizeLine := by
      rw [← Paired.length r1, sizeLine_eq]
      omega
    refine mw_call (us := [] ++ us1) T.x J1 ea1 hu4 hlen fun s5 J5 => ?_
    have J6 : Inv (ncx CX P w K mg base N F f A outer s H E) [] (startF N vs [some (V.ref C)]) H1 s5 := J5.pins_of fun p hp => absurd hp (by simp)
    refine PySem.wpAt_of_wpAny ?_
    refine wpAny_mono ((hrest A outer s H E).run [] s5 (startF N vs [some (V.ref C)]) H1 _ J6 q1) (fun fl s' hs => ?_) fun e s' hs => ?_
    · have fin : ∀ {σ' : L2.St} {H' : Hp} {v : V} {u : Value}, Inv (ncx CX P w K mg base N F f A outer s H E) [] σ' H' s' → L2.RelV v u → Q v H' → CE outer P w H s Q u s' :=
        fun {σ' H' v u} J rv q => ⟨v, H', J.os, J.bare, J.base, J.hok, rv, q⟩
      cases fl with
      | ret u =>
        obtain ⟨v, σ', H', J, rv, q⟩ := hs
        exact fin J rv q
      | next =>
        obtain ⟨σ', H', J, q⟩ := hs
        exact fin (v := V.non) (u := Value.none) J rfl q
      | brk =>
        obtain ⟨_, _, _, q⟩ := hs
        exact False.elim q
      | cont =>
        obtain ⟨_, _, _, q⟩ := hs
        exact False.elim q
    · exact hs
end
end AB

/-! AB17: own errors made and raised -/
namespace AB
open PySem PySem.Spec
open PyProof.Rows hiding St
open L2 NdefX

/-- what an error's __init__ promises: the fields by name -/
def spI (C : Addr) (names : List Str) : Sp := fun vs H Q _ => ∃ a ws, vs = .ref a :: ws ∧ ws.length = names.length ∧ H a = some (exo a C none) ∧
  ∀ dx H', H dx = none → dx ≠ a → H' a = some (exo a C (some dx)) → H' dx = some (exd dx (names.zip ws).reverse) → (∀ b, b ≠ a → b ≠ dx → H' b = H b) → Q .non H'

section
variable {CX : CXT} {P : Program} {w : World} {K : PySem.W.Frag} {mg : Str → Option Value} {base : Heap} {F : NF} {f C cc : Addr} {k : Nat}
theorem err_init1 {doc pm ctv oc occ : Value} {od odc : Option Addr} {osl slc : Array (Option Value)} {p0 p1 p2 p3 p4 p5 p6 p7 p8 p9 : Pos} {n : Str} {file : Str} {tf : Tok} {cvs : Array Value} {coc : Value} {cod : Option Addr} {cosl : Array (Option Value)}
    (T : ErrC K C) (hno : PySem.W.findIn K (.ref C) n = some none) (S : NScope ["self", n, "__class__"] ["self", n] ["__class__"] F.scope) (lk : K.lookup f = some ⟨oc, od, .func (F.fd doc pm ctv), osl⟩) (hcl : F.cl = [(("__class__" : Str), cc)]) (lc : K.lookup cc = some ⟨occ, odc, .cell (some (.ref C)), slc⟩)
    (hcd : PySem.W.codeIn K (.ref F.c) F.qual = true) (lcd : K.lookup F.c = some ⟨coc, cod, .fields cvs, cosl⟩) (hvs : cvs[2]? = some (.str file tf)) (hfile : ((P.main.file : Str) == file) = true) (htop : (P.main.scope.names.lookup ("super" : Str)).isSome = false)
    (hbd : F.body = [.Expr (.Call (.Attribute (.Call (.Name "super" p0) [] [] p1) "__init__" p2) [.Name n p5] [] p3) p4, .Assign [.Attribute (.Name "self" p6) n p7] (.Name n p8) p9]) (hsup : F.scope.names.lookup ("super" : Str) = some NameKind.globalImplicit) (hmg : mg "super" = none)
    (hpar : (F.params.posonlyargs ++ F.params.args).head?.map (·.arg) = some "self")
    (hev : ∀ env : Env, ∃ pl : Sem Bool, eval (.Call (.Attribute (.Call (.Name "super" p0) [] [] p1) "__init__" p2) [.Name n p5] [] p3) env = (do
      let ov ← attributeBase (.Call (.Name "super" p0) [] [] p1) "__init__" env (eval (.Call (.Name "super" p0) [] [] p1) env)
      standAt p2.atName
      let (f, first) ← holding [ov] (getMethod ov "__init__" pl)
      callWith p3 f first (backTo p3 (starEach [.Name n p5] env)) []))
    (hd : (n == ("__debug__" : Str)) = false := by decide) (hcdn : (n == ("__classdict__" : Str)) = false := by decide) :
    FnOk P w K mg base CX (k + 1) f (F.fd doc pm ctv) ["self", n] (spI C [n]) := by
  have vis : ∀ {A outer s H E} {x : Str}, x ∈ (["self", n] : List Str) → Vis (ncx CX P w K mg base ["self", n, "__class__"] F f A outer s H E).env.scope x := fun hx => .inl (S.par _ hx)
  refine fn_init (ta := tCons (tVar 1) tNil) (tr := tOst K n (tVar 0) (tVar 1)) (e := .Name n p5) (es := []) T S rfl (by decide) lk hcl lc hcd lcd hvs hfile htop hbd hsup hmg hpar (fun vs H Q E h => ?_) (fun vs H Q E h => ?_) (fun A outer s H E => ?_) (fun A outer s H E => ?_) (fun vs H Q E a ws h ev ea => ?_) ?_
  · obtain ⟨a, ws, rfl, hl, _⟩ := h
    simpa using hl
  · obtain ⟨a, ws, rfl, hl, e, _⟩ := h
    exact ⟨a, ws, rfl, e⟩
  · exact pa_cons (pe_var (i := 1) rfl (vis (by simp)) hd hcdn) pa_nil
  · exact pss_one (ps_ost (pe_var (i := 0) rfl (vis (by simp))) (pe_var (i := 1) rfl (vis (by simp)) hd hcdn))
  · obtain ⟨a2, ws2, e2, hl, ea2, hq⟩ := h
    subst ev
    cases e2
    cases ws with
    | nil => cases hl
    | cons y ws =>
      cases ws with
      | cons _ _ => cases hl
      | nil =>
        refine ⟨y, rfl, ?_⟩
        refine ⟨by simp, ea, ?_⟩
        refine ⟨y, rfl, .ref a, rfl, a, C, rfl, T.x, hno, .inl ⟨ea, fun dx hdx hne => ?_⟩⟩
        exact hq dx _ hdx hne upd_same (by rw [upd_ne hne]; exact upd_same) fun b h1 h2 => by rw [upd_ne h1, upd_ne h2]
  · exact hev
theorem err_init2 {doc pm ctv oc occ : Value} {od odc : Option Addr} {osl slc : Array (Option Value)} {p0 p1 p2 p3 p4 p5 p6 p7 p8 p9 p10 p11 p12 p13 p14 : Pos} {n n2 : Str} {file : Str} {tf : Tok} {cvs : Array Value} {coc : Value} {cod : Option Addr} {cosl : Array (Option Value)}
    (T : ErrC K C) (hno : PySem.W.findIn K (.ref C) n = some none) (hno2 : PySem.W.findIn K (.ref C) n2 = some none) (S : NScope ["self", n, n2, "__class__"] ["self", n, n2] ["__class__"] F.scope) (lk : K.lookup f = some ⟨oc, od, .func (F.fd doc pm ctv), osl⟩) (hcl : F.cl = [(("__class__" : Str), cc)]) (lc : K.lookup cc = some ⟨occ, odc, .cell (some (.ref C)), slc⟩)
    (hcd : PySem.W.codeIn K (.ref F.c) F.qual = true) (lcd : K.lookup F.c = some ⟨coc, cod, .fields cvs, cosl⟩) (hvs : cvs[2]? = some (.str file tf)) (hfile : ((P.main.file : Str) == file) = true) (htop : (P.main.scope.names.lookup ("super" : Str)).isSome = false)
    (hbd : F.body = [.Expr (.Call (.Attribute (.Call (.Name "super" p0) [] [] p1) "__init__" p2) [.Name n p5, .Name n2 p10] [] p3) p4, .Assign [.Attribute (.Name "self" p6) n p7] (.Name n p8) p9, .Assign [.Attribute (.Name "self" p11) n2 p12] (.Name n2 p13) p14]) (hsup : F.scope.names.lookup ("super" : Str) = some NameKind.globalImplicit) (hmg : mg "super" = none)
    (hpar : (F.params.posonlyargs ++ F.params.args).head?.map (·.arg) = some "self")
    (hev : ∀ env : Env, ∃ pl : Sem Bool, eval (.Call (.Attribute (.Call (.Name "super" p0) [] [] p1) "__init__" p2) [.Name n p5, .Name n2 p10] [] p3) env = (do
      let ov ← attributeBase (.Call (.Name "super" p0) [] [] p1) "__init__" env (eval (.Call (.Name "super" p0) [] [] p1) env)
      standAt p2.atName
      let (f, first) ← holding [ov] (getMethod ov "__init__" pl)
      callWith p3 f first (backTo p3 (starEach [.Name n p5, .Name n2 p10] env)) []))
    (hd : (n == ("__debug__" : Str)) = false := by decide) (hcdn : (n == ("__classdict__" : Str)) = false := by decide) (hd2 : (n2 == ("__debug__" : Str)) = false := by decide) (hcdn2 : (n2 == ("__classdict__" : Str)) = false := by decide) :
    FnOk P w K mg base CX (k + 1) f (F.fd doc pm ctv) ["self", n, n2] (spI C [n, n2]) := by
  have vis : ∀ {A outer s H E} {x : Str}, x ∈ (["self", n, n2] : List Str) → Vis (ncx CX P w K mg base ["self", n, n2, "__class__"] F f A outer s H E).env.scope x := fun hx => .inl (S.par _ hx)
  refine fn_init (ta := tCons (tVar 1) (tCons (tVar 2) tNil)) (tr := tSeq (tOst K n (tVar 0) (tVar 1)) (tOst K n2 (tVar 0) (tVar 2))) (e := .Name n p5) (es := [.Name n2 p10]) T S rfl (by decide) lk hcl lc hcd lcd hvs hfile htop hbd hsup hmg hpar (fun vs H Q E h => ?_) (fun vs H Q E h => ?_) (fun A outer s H E => ?_) (fun A outer s H E => ?_) (fun vs H Q E a ws h ev ea => ?_) ?_
  · obtain ⟨a, ws, rfl, hl, _⟩ := h
    simpa using hl
  · obtain ⟨a, ws, rfl, hl, e, _⟩ := h
    exact ⟨a, ws, rfl, e⟩
  · exact pa_cons (pe_var (i := 1) rfl (vis (by simp)) hd hcdn) (pa_cons (pe_var (i := 2) rfl (vis (by simp)) hd2 hcdn2) pa_nil)
  · exact pss_cons (ps_ost (pe_var (i := 0) rfl (vis (by simp))) (pe_var (i := 1) rfl (vis (by simp)) hd hcdn)) (pss_one (ps_ost (pe_var (i := 0) rfl (vis (by simp))) (pe_var (i := 2) rfl (vis (by simp)) hd2 hcdn2)))
  · obtain ⟨a2, ws2, e2, hl, ea2, hq⟩ := h
    subst ev
    cases e2
    cases ws with
    | nil => cases hl
    | cons y ws =>
      cases ws with
      | nil => cases hl
      | cons z ws =>
      cases ws with
      | cons _ _ => cases hl
      | nil =>
        refine ⟨y, rfl, z, rfl, ?_⟩
        refine ⟨by simp, ea, ?_⟩
        refine ⟨y, rfl, .ref a, rfl, a, C, rfl, T.x, hno, .inl ⟨ea, fun dx hdx hne => ?_⟩⟩
        refine ⟨z, rfl, .ref a, rfl, a, C, rfl, T.x, hno2, .inr ⟨dx, [(n, y)], upd_same, by rw [upd_ne hne]; exact upd_same, by simp, ?_⟩⟩
        exact hq dx _ hdx hne (by rw [upd_ne (Ne.symm hne)]; exact upd_same) (by exact upd_same) fun b h1 h2 => by rw [upd_ne h2, upd_ne h1, upd_ne h2]
  · exact hev
end
end AB

/-! AB18: raise of own errors; try .. except X as e: return .. -/
namespace AB
open PySem PySem.Spec
open PyProof.Rows hiding St
open L2 NdefX

/-- what a law's text says of an own error class: its fields by name -/
structure ErrT (P : Program) (w : World) (K : PySem.W.Frag) (mg : Str → Option Value) (base : Heap) (x : Str) (C : Addr) (names : List Str) : Prop where
  ec : ErrC K C
  g : mg x = some (.ref C)
  ini : ∃ fI fd ps, PySem.W.findIn K (.ref C) "__init__" = some (some (.ref fI)) ∧ PySem.W.typeIn K (.ref fI) = some (.type "function") ∧ FnOk P w K mg base (L2.CX P w) 1 fI fd ps (spI C names) ∧ Binds K fd ps []
  len : names.length ≤ 900

/-- raise C(..) -/
def sRaise (C : Addr) (names : List Str) (l : AL) : AS := fun σ h => liftS (l σ h) σ fun xs h1 => if xs.length = names.length then .exc C (names.zip xs).reverse σ h1 else .stuck

section
variable {X : Cx} {W : WX} {K : KW} {ρ ρ' : List Addr} {H H' : Hp} {h : AH} {τ : St}
theorem rkv_zip {names : List Str} {xs : List PV} {vs : List V} (hl : xs.length = names.length) (r : RVs K ρ H xs vs) : RKV K ρ H (names.zip xs).reverse (names.zip vs).reverse := by
  have l2 := r.len
  refine ⟨?_, ?_⟩
  · rw [List.map_reverse, List.map_reverse, List.map_fst_zip (by omega), List.map_fst_zip (by omega)]
  · rw [List.map_reverse, List.map_reverse, List.map_snd_zip (by omega), List.map_snd_zip (by omega)]
    exact r.reverse
theorem js_raise {C : Addr} {names : List Str} {x : Str} {e : Expr} {es : List Expr} {l : AL} {p pos pos' : Pos} (T : ErrT X.prog X.w X.K X.mg X.base x C names) (hr : Room 2 X.A) (hc : X.calm = true) (tk : Takes X W) (ha : JA X W (e :: es) l) (hg : Gl X x := by rfl)
    (hdb : (x == ("__debug__" : Str)) = false := by decide) (he : starEach (e :: es) X.env = (false, eval e X.env) :: starEach es X.env := by rfl) (hpl : (backTo pos (starEach es X.env)).any (·.1) = false := by rfl) :
    JS X W (.Raise (some (.Call (.Name x p) (e :: es) [] pos)) none pos') (sRaise C names l) := by
  obtain ⟨fI, fd, ps, iC, tI, F1, hb⟩ := T.ini
  refine ⟨PSmono (ps_raise hc tk (pmk_oex (CX := L2.CX X.prog X.w) (dvs := []) T.ec.x iC tI F1 hr hb .nil (pass_none tk) hg T.g ha.pa hdb he hpl)) fun D τ H ⟨ρ, h, σ, R, S, o⟩ => ?_⟩
  refine ⟨ρ, h, σ, R, S, ?_⟩
  refine (OutS.lift (R := RVs (cxKW X)) S o).mono fun vs H1 ⟨ρ1, xs, h1, e1, R1, r1, o1⟩ => ?_
  split at o1
  · rename_i hxs
    have hlv := r1.len
    refine ⟨by have := T.len; omega, fun a hna => ?_⟩
    refine ⟨a, vs, by rw [List.append_nil], by omega, upd_same, fun dx H2 hdx hne ha2 hd2 hoth => ?_⟩
    have hdx1 : H1 dx = none := by rw [upd_ne hne] at hdx; exact hdx
    refine ⟨rfl, dx, _, ha2, hd2, hdx1, ?_⟩
    have eH : upd (L2.del H2 a) dx (.xd (names.zip vs).reverse) = upd H1 dx (.xd (names.zip vs).reverse) := by
      funext b
      by_cases hb : b = dx
      · rw [hb, upd_same, upd_same]
      · rw [upd_ne hb, upd_ne hb]
        by_cases hba : b = a
        · rw [hba, L2.del_same, hna]
        · rw [L2.del_ne hba, hoth b hba hb, upd_ne hba]
    rw [eH]
    have e2 : Ext ρ1 H1 ρ1 (upd H1 dx (.xd (names.zip vs).reverse)) := Ext.fresh hdx1
    exact o1 ρ1 τ _ dx e2 (R1.fresh hdx1) ((S.mono e1).mono e2) ⟨R1.notin hdx1, _, upd_same, (rkv_zip hxs r1).mono e2⟩
  · exact o1.elim
end

/-! ### isinstance of a caught error -/
end AB
namespace PySem.W
open PySem PySem.Spec PySem.Calls PyProof.Rows
open L2 (ExcC)
theorem kin_cls {prog : Program} {w : World} {A : Around} {E : Value → Shared → Prop} {s : Shared} {K : Frag} {x D : Addr} {ox : Obj} {od : Option Obj} {Q : Option Value → Shared → Prop} (C : ExcC K D)
    (X : K.In s.heap) (I : InstAt s.heap x ox D od) (h : Q (some (.ref D)) { s with toks := s.toks + 1 }) : wpAny (model prog w) A (getAttr? (.ref x) "__class__") Q E s := by
  have hf : findObj K D od "__class__" = some (.bind (.builtin "getset_descriptor.__get__") (.builtin "object.__class__")) := by
    obtain ⟨cd, hc, _⟩ := any_some C.hd
    unfold findObj
    rw [hc, Option.bind_some, C.ha, Option.bind_some]
    simp [C.hn, C.ht]
  obtain ⟨hp, g, d, t, os⟩ := s
  have L0 := I.type (M := model prog w)
  have L1 := looks_findIn (M := model prog w) X C.hg
  have L2 := looks_findIn (M := model prog w) X C.hk
  have L3 := looks_find (M := model prog w) X I hf
  have sub : Looks (model prog w) hp (isInstance (.ref x) (.type "BaseException")) true := L0.andThen (looks_subIn X C.hs)
  have hx0 : (false && onTheHeap (Value.builtin "BaseException.__getattribute__")) = false := rfl
  have hx2 : (Value.builtin "BaseException.__getattribute__" == Value.builtin "object.__getattribute__") = false := by decide +kernel
  have hx1 : (onTheHeap (Value.ref D) && Value.builtin "BaseException.__getattribute__" == Value.builtin "object.__getattribute__") = false := by rw [hx2]; rfl
  unfold getAttr? getAttrBy? getAttrBy
  refine wpAny_bind (wpAny_mkText (wpAny_bind (wpAny_attempt (wpAny_holding (wpAny_bind (L0.at (wpAny_bind (L1.at ?_))))))))
  show wpAny _ _ (if (onTheHeap (Value.ref D) && Value.builtin "BaseException.__getattribute__" == Value.builtin "object.__getattribute__") = true then _ else _) _ _ _
  rw [hx1, if_neg Bool.false_ne_true]
  unfold getAttrByItsOwn hookBefore
  refine wpAny_bind ?_
  rw [if_pos (show onTheHeap (Value.ref D) = true from rfl)]
  refine L2.at ?_
  refine wpAny_bind (wpAny_attempt (wpAny_holding ?_))
  unfold callGetattribute
  rw [hx0, if_neg Bool.false_ne_true]
  unfold boundAndCalled
  rw [PySem.F.excAttr_ValueError.ga.bind (.ref x)]
  refine wpAny_bind (wpAny_pure ?_)
  show wpAny _ _ (call (.builtin "BaseException.__getattribute__") [.ref x, .str "__class__" t]) _ _ _
  refine wpAny_call (codeAny_call_builtin PySem.F.excAttr_ValueError.ga.plain PySem.F.entry_bexc_ga ?_)
  refine @check_slot (model prog w) _ _ ⟨hp, g, d, t + 1, os⟩ "BaseException.__getattribute__" "BaseException" "__getattribute__" (.ref x) [.str "__class__" t] [] _ (by decide +kernel) (by decide +kernel) sub (PySem.F.args_bexc_ga (.ref x) (.str "__class__" t)) ?_
  unfold Builtin.«object.__getattribute__»
  refine wpAny_bind (wpAny_of_eq (a := ((Value.ref x : Value), [Value.str "__class__" t])) (by first | rfl | (simp only [slotArgs]; rfl)) ?_)
  refine wpAny_bind (wpAny_pure (wpAny_bind (L0.at (wpAny_bind (L3.at ?_)))))
  show wpAny _ _ (holding [Value.builtin "object.__class__"] (call (.builtin "getset_descriptor.__get__") [.builtin "object.__class__", .ref x, .ref D]) >>= ret) _ _ _
  refine wpAny_bind (wpAny_holding (wpAny_call (class_get (s := ⟨hp, g, d, t + 1, os⟩) (ox := ox) (od := od) X I C.hm ?_)))
  refine wpAny_pure ?_
  show wpAny _ _ (handedOut (.ref D)) _ _ _
  rw [handedOut_of (v := .ref D) rfl]
  first
    | exact wpAny_pure (wpAny_pure h)
    | exact wpAny_pure h
    | exact wpAny_pure (wpAny_bind (wpAny_pure (wpAny_pure h)))
end PySem.W
namespace AB
open PySem PySem.Spec
open PyProof.Rows hiding St
open L2 NdefX
section
variable {X : Cx} {a D dd : Addr} {oe : Obj}
theorem kit_exc {K : PySem.W.Frag} {x D : Addr} {ox : Obj} (C : ExcC K D) : PySem.W.KitX K (.ref x) (.ref D) (fun h => ∃ od, PySem.W.InstAt h x ox D od) where
  ty := fun _ _ _ I => I.choose_spec.type
  it := fun _ _ X _ => by
    obtain ⟨cdD, hcD, _⟩ := PySem.W.any_some C.hd
    unfold PySem.W.clsIn at hcD
    split at hcD
    · rename_i c' d' cd' sl' ho
      intro A' Q' E' s' k q
      unfold isType loadHead
      exact wpAny_bind (wpAny_loadPart (k _ _ (X _ _ ho)) (wpAny_pure q))
    · cases hcD
  ne := (PySem.W.handS_kitx_exc (x := x) (ox := ox) C.hg C.hk C.hs C.hd C.ha C.hn C.ht C.hm).ne
  ca := fun X I k => PySem.W.kin_cls C X I.choose_spec k
/-- isinstance(e, c), e the error that the suite holds -/
def rIs2 (K : PySem.W.Frag) (D a dd : Addr) : List V → Hp → VK → Prop := fun xs H Q => ∃ (c : Addr) (b : Bool) (fs : List (Str × V)), xs = [.ref a, .ref c] ∧ H dd = some (.xd fs) ∧ PySem.W.kitOne K (.ref D) (.ref c) = some b ∧ Q (.bl b) H
theorem call_is2 {pn : List (Addr × Obj)} (C : ExcC X.K D) (hz : Zc (.ref D) (some dd) oe) (hf : ∃ vs, oe.data = .fields vs) : CallR (X.suite a ((a, oe) :: pn)) (.builtin "isinstance") (rIs2 X.K D a dd) := by
  intro pins s σ H xs us Q I r h
  obtain ⟨c, b, fs, rfl, hdd, e, q⟩ := h
  cases r with
  | cons rx rr =>
    cases rr with
    | cons rt rr =>
      cases rr
      cases rx
      cases rt
      obtain ⟨hget, _⟩ := I.pin (a, oe) (List.mem_append.mpr (.inl List.mem_cons_self))
      obtain ⟨vs, hv⟩ := hf
      have hx : ObjOk X.prog X.w H s.heap dd (.xd fs) := I.hok dd _ hdd
      obtain ⟨mA, hns, hr⟩ := hx
      obtain ⟨od, ho, hl⟩ := lookIn_ns hns
      have J : PySem.W.InstAt s.heap a oe D (some od) := ⟨hget, hz.1, by unfold PySem.W.notCls; rw [hv] <;> rfl, by rw [hz.2]; exact ho⟩
      exact PySem.W.kia_one (kit_exc C) I.kIn ⟨_, J⟩ e (fun z => nomatch z) fun tk => ⟨.bl b, H, I.kept (t' := tk) fun _ _ z => z, rfl, q⟩
end
end AB

/-! AB19: the suite of except X as e, and the try statement -/
namespace AB
open PySem PySem.Spec
open PyProof.Rows hiding St
open L2 NdefX

abbrev WN : WX := fun _ _ _ _ => False
/-- the suite's knowledge: slot i is the error at a, whose dict at d holds fs -/
def XF (K : KW) (i : Nat) (a d : Addr) (fs : List (Str × PV)) (ρ : List Addr) (τ : St) (H : Hp) : Prop := τ[i]? = some (some (.ref a)) ∧ XD K ρ H d fs
section
variable {K : KW} {i : Nat} {a d : Addr} {fs : List (Str × PV)} {ρ ρ' : List Addr} {τ : St} {H H' : Hp}
theorem XD.mono (x : XD K ρ H d fs) (e : Ext ρ H ρ' H') : XD K ρ' H' d fs := by
  obtain ⟨n, vs, hv, r⟩ := x
  obtain ⟨h', n'⟩ := e.old _ _ hv n
  exact ⟨n', vs, h', r.mono e⟩
theorem XF.mono (x : XF K i a d fs ρ τ H) (e : Ext ρ H ρ' H') : XF K i a d fs ρ' τ H' := ⟨x.1, x.2.mono e⟩
end
section
variable (K : KW) (i : Nat) (a d : Addr) (fs : List (Str × PV))
def XE1 (m : AE) : TE := fun τ H Q => ∃ ρ h σ, Rep K ρ h H ∧ RS K ρ H σ τ ∧ XF K i a d fs ρ τ H ∧ OutE K WN ρ τ H (m σ h) Q
def XT1 (m : AT) : TT := fun τ H Q => ∃ ρ h σ, Rep K ρ h H ∧ RS K ρ H σ τ ∧ XF K i a d fs ρ τ H ∧ OutT K WN ρ τ H (m σ h) Q
def XL1 (m : AL) : TA := fun τ H Q => ∃ ρ h σ, Rep K ρ h H ∧ RS K ρ H σ τ ∧ XF K i a d fs ρ τ H ∧ OutL K WN ρ τ H (m σ h) Q
end
structure XC where
  i : Nat
  a : Addr
  d : Addr
  oe : Obj
  pn : List (Addr × Obj)
  c : Addr
  fs : List (Str × PV)
abbrev XC.cx (Y : XC) (X : Cx) : Cx := X.suite Y.a ((Y.a, Y.oe) :: Y.pn)
structure XC.Ok (Y : XC) (X : Cx) (n : Str) : Prop where
  z : Zc (.ref Y.c) (some Y.d) Y.oe
  f : ∃ vs, Y.oe.data = .fields vs
  ix : X.N[Y.i]? = some n
  v : Vis X.env.scope n
structure JX (X : Cx) (Y : XC) (e : Expr) (m : AE) : Prop where
  pe : PE (Y.cx X) e (XE1 (cxKW X) Y.i Y.a Y.d Y.fs m)
structure JXT (X : Cx) (Y : XC) (e : Expr) (m : AT) : Prop where
  pt : PT (Y.cx X) e (XT1 (cxKW X) Y.i Y.a Y.d Y.fs m)
structure JXW (X : Cx) (Y : XC) (e : Expr) (m : AT) : Prop where
  pw : PW (Y.cx X) e (XT1 (cxKW X) Y.i Y.a Y.d Y.fs m)
structure JXA (X : Cx) (Y : XC) (es : List Expr) (m : AL) : Prop where
  pa : PA (Y.cx X) es (XL1 (cxKW X) Y.i Y.a Y.d Y.fs m)
/-- e.f of the error -/
def aXf (fs : List (Str × PV)) (f : Str) : AE := fun _ h => match fs.lookup f with
  | some x => .ok x h
  | none => .stuck
/-- isinstance(e, C) of the error of class c: by the table -/
def tXi (c : Addr) (tb : List (Addr × Bool)) : AT := fun _ h => match tb.lookup c with
  | some b => .ok b h
  | none => .stuck

section
variable {X : Cx} {Y : XC} {e : Expr} {es : List Expr} {pos : Pos}
theorem jx_of {m : AE} (h : JE (Y.cx X) WN e m) : JX X Y e m := ⟨PEmono h.pe fun τ H Q ⟨ρ, h, σ, R, S, _, o⟩ => ⟨ρ, h, σ, R, S, o⟩⟩
theorem rkv_get {K : KW} {ρ : List Addr} {H : Hp} : ∀ {fs : List (Str × PV)} {vs : List (Str × V)} {f : Str} {x : PV}, RKV K ρ H fs vs → fs.lookup f = some x → ∃ v, vs.lookup f = some v ∧ RV K ρ H x v := by
  intro fs
  induction fs with
  | nil => intro vs f x r e; cases e
  | cons p fs ih =>
    intro vs f x r e
    obtain ⟨k, y⟩ := p
    cases vs with
    | nil => have := r.keys; simp at this
    | cons q vs =>
      obtain ⟨k2, v⟩ := q
      have hk : k2 = k := (List.cons.inj (show k2 :: vs.map (·.1) = k :: fs.map (·.1) from r.keys)).1
      subst hk
      obtain ⟨v', vs', e1, r1, r2⟩ := RVs.cons_inv r.vals
      cases e1
      rw [List.lookup_cons] at e ⊢
      by_cases hf : f == k2
      · rw [hf] at e ⊢
        cases e
        exact ⟨v, rfl, r1⟩
      · have hf' : (f == k2) = false := by simpa using hf
        rw [hf'] at e ⊢
        exact ih ⟨(List.cons.inj (show k2 :: vs.map (·.1) = k2 :: fs.map (·.1) from r.keys)).2, r2⟩ e
theorem jx_fld {n f : Str} {p : Pos} (T : XfC X.K Y.c) (hno : PySem.W.findIn X.K (.ref Y.c) f = some none) (y : Y.Ok X n) (hdb : (n == ("__debug__" : Str)) = false := by decide) (hcd : (n == ("__classdict__" : Str)) = false := by decide)
    (hb : attributeBase (.Name n p) f X.env (eval (.Name n p) X.env) = eval (.Name n p) X.env := by rfl) : JX X Y (.Attribute (.Name n p) f pos) (aXf Y.fs f) := by
  refine ⟨PEmono (pe_xf (d := some Y.d) T hno y.z y.f (pe_var (X := Y.cx X) (i := Y.i) y.ix y.v hdb hcd) hb) fun τ H Q ⟨ρ, h, σ, R, S, x, o⟩ => ?_⟩
  refine ⟨.ref Y.a, x.1, rfl, rfl, ?_⟩
  obtain ⟨_, vs, hv, r⟩ := x.2
  unfold aXf at o
  split at o
  · rename_i y' e'
    obtain ⟨v, e2, r2⟩ := rkv_get r e'
    exact ⟨Y.d, vs, v, rfl, hv, e2, o ρ H v .refl R r2⟩
  · exact o.elim
theorem jxa_nil : JXA X Y [] aNil := ⟨PAmono pa_nil fun τ H Q ⟨ρ, h, σ, R, S, _, o⟩ => Out.done o R RVs.nil⟩
theorem jxa_cons {m : AE} {r : AL} (ha : JX X Y e m) (hr : JXA X Y es r) (hs : starEach (e :: es) X.env = (false, eval e X.env) :: starEach es X.env := by rfl) : JXA X Y (e :: es) (aCons m r) :=
  ⟨PAmono (pa_cons (X := Y.cx X) ha.pe hr.pa hs) fun τ H Q ⟨ρ, h, σ, R, S, z, o⟩ => ⟨ρ, h, σ, R, S, z, (Out.bind (R := RV (cxKW X)) o).mono fun x H1 ⟨ρ1, v, h1, e1, R1, q1, o1⟩ =>
    ⟨ρ1, h1, σ, R1, S.mono e1, z.mono e1, (Out.bind (R := RVs (cxKW X)) o1).mono fun xs H2 ⟨ρ2, vs, h2, e2, R2, q2, o2⟩ => Out.done o2 R2 (.cons (q1.mono e2) q2)⟩⟩⟩
theorem jx_tup {l : AL} {k : Nat} (h : JXA X Y es l) : JX X Y (.Tuple es k pos) (aTup l) :=
  ⟨PEmono (pe_tup h.pa) fun τ H Q ⟨ρ, h, σ, R, S, z, o⟩ => ⟨ρ, h, σ, R, S, z, (Out.bind (R := RVs (cxKW X)) o).mono fun xs H1 ⟨ρ1, vs, h1, e1, R1, q1, o1⟩ => by
    split at o1
    · rename_i hz; exact ⟨by rw [q1.len]; exact hz, new_tup R1 q1 o1⟩
    · exact o1.elim⟩⟩
theorem jx_if {c a b : Expr} {mc : AT} {ma mb : AE} (hc : JXT X Y c mc) (ha : JX X Y a ma) (hb : JX X Y b mb) : JX X Y (.IfExp c a b pos) (aIf mc ma mb) :=
  ⟨PEmono (pe_ifExp hc.pt ha.pe hb.pe) fun τ H Q ⟨ρ, h, σ, R, S, z, o⟩ => ⟨ρ, h, σ, R, S, z, (Out.bind (R := fun _ _ (a b : Bool) => a = b) o).mono fun x H1 ⟨ρ1, v, h1, e1, R1, q1, o1⟩ => by
    subst q1
    cases v with
    | true => rw [if_pos rfl] at o1 ⊢; exact ⟨ρ1, h1, σ, R1, S.mono e1, z.mono e1, o1⟩
    | false => rw [if_neg Bool.false_ne_true] at o1 ⊢; exact ⟨ρ1, h1, σ, R1, S.mono e1, z.mono e1, o1⟩⟩⟩
theorem jxt_not {a : Expr} {ma : AT} (ha : JXT X Y a ma) : JXT X Y (.UnaryOp .Not a pos) (tNot ma) :=
  ⟨PTmono (pt_not ha.pt) fun τ H Q ⟨ρ, h, σ, R, S, z, o⟩ => ⟨ρ, h, σ, R, S, z, (Out.bind (R := fun _ _ (a b : Bool) => a = b) o).mono fun x H1 ⟨ρ1, v, h1, e1, R1, q1, o1⟩ => by
    subst q1; exact Out.done o1 R1 rfl⟩⟩
theorem jxt_bool {m : AT} (h : JXW X Y e m) : JXT X Y e m := ⟨h.pw.pt⟩
theorem jxw_and1 {a : Expr} {ma : AT} (ha : JXT X Y a ma) : JXW X Y (.BoolOp .And [a] pos) ma := ⟨pw_and1 ha.pt⟩
theorem jxw_or1 {a : Expr} {ma : AT} (ha : JXT X Y a ma) : JXW X Y (.BoolOp .Or [a] pos) ma := ⟨pw_or1 ha.pt⟩
theorem jxw_and {a b : Expr} {rest : List Expr} {ma mb : AT} (ha : JXT X Y a ma) (hb : JXW X Y (.BoolOp .And (b :: rest) pos) mb) : JXW X Y (.BoolOp .And (a :: b :: rest) pos) (tAnd ma mb) :=
  ⟨PWmono (pw_and ha.pt hb.pw) fun τ H Q ⟨ρ, h, σ, R, S, z, o⟩ => ⟨ρ, h, σ, R, S, z, (Out.bind (R := fun _ _ (a b : Bool) => a = b) o).mono fun x H1 ⟨ρ1, v, h1, e1, R1, q1, o1⟩ => by
    subst q1
    cases v with
    | true => rw [if_pos rfl] at o1 ⊢; exact ⟨ρ1, h1, σ, R1, S.mono e1, z.mono e1, o1⟩
    | false => rw [if_neg Bool.false_ne_true] at o1 ⊢; exact Out.done o1 R1 rfl⟩⟩
theorem jxw_or {a b : Expr} {rest : List Expr} {ma mb : AT} (ha : JXT X Y a ma) (hb : JXW X Y (.BoolOp .Or (b :: rest) pos) mb) : JXW X Y (.BoolOp .Or (a :: b :: rest) pos) (tOr ma mb) :=
  ⟨PWmono (pw_or ha.pt hb.pw) fun τ H Q ⟨ρ, h, σ, R, S, z, o⟩ => ⟨ρ, h, σ, R, S, z, (Out.bind (R := fun _ _ (a b : Bool) => a = b) o).mono fun x H1 ⟨ρ1, v, h1, e1, R1, q1, o1⟩ => by
    subst q1
    cases v with
    | false => rw [if_neg Bool.false_ne_true] at o1 ⊢; exact ⟨ρ1, h1, σ, R1, S.mono e1, z.mono e1, o1⟩
    | true => rw [if_pos rfl] at o1 ⊢; exact Out.done o1 R1 rfl⟩⟩
/-- isinstance(e, C): tb by class -/
theorem jxt_is {n x : Str} {C : Addr} {tb : List (Addr × Bool)} {p p1 p2 : Pos} (T : ExcC X.K Y.c) (y : Y.Ok X n) (ht : ∀ b, tb.lookup Y.c = some b → PySem.W.kitOne X.K (.ref Y.c) (.ref C) = some b) (hm : X.mg "isinstance" = none) (hx : X.mg x = some (.ref C)) (hgx : Gl X x := by rfl) (hg : Gl X "isinstance" := by rfl)
    (hdx : (x == ("__debug__" : Str)) = false := by decide) (hdb : (n == ("__debug__" : Str)) = false := by decide) (hcd : (n == ("__classdict__" : Str)) = false := by decide)
    (he : starEach [.Name n p1, .Name x p2] X.env = (false, eval (.Name n p1) X.env) :: starEach [.Name x p2] X.env := by rfl) (hpl : (backTo pos (starEach [.Name x p2] X.env)).any (·.1) = false := by rfl)
    (ht0 : ∀ whole, isTrue (.Call (.Name "isinstance" p) [.Name n p1, .Name x p2] [] pos) X.env whole = (do let v ← whole; standAt pos; holding [v] (truthy v)) := by intro _; rfl) :
    JXT X Y (.Call (.Name "isinstance" p) [.Name n p1, .Name x p2] [] pos) (tXi Y.c tb) := by
  have pa : PA (Y.cx X) [.Name n p1, .Name x p2] (tCons (tVar Y.i) (tCons (tC (.ref C)) tNil)) := pa_cons (pe_var (X := Y.cx X) y.ix y.v hdb hcd) (pa_cons (pe_glob (X := Y.cx X) hgx hx rfl hdx) pa_nil)
  refine ⟨PTmono (pt_val (pe_callB (X := Y.cx X) (call_is2 (dd := Y.d) T y.z y.f) hg hm (by rfl) pa (by decide) (by decide) he hpl) ht0) fun τ H Q ⟨ρ, h, σ, R, S, z, o⟩ => ?_⟩
  refine ⟨.ref Y.a, z.1, ?_⟩
  obtain ⟨_, vs, hv, r⟩ := z.2
  unfold tXi at o
  split at o
  · rename_i b eb
    exact ⟨C, b, vs, rfl, hv, ht b eb, b, rfl, o ρ H b .refl R rfl⟩
  · exact o.elim
end

/-- try: body, except X as e: return E; hits: the classes that it takes -/
def sTry (i : Nat) (hits : List Addr) (mb : AS) (mE : Addr → List (Str × PV) → AE) : AS := fun σ h => match mb σ h with
  | .exc c fs σ1 h1 => if c ∈ hits ∧ i < σ1.length then (match mE c fs (σ1.set i none) h1 with
      | .ok v h2 => .fin (.rt v) (σ1.set i none) h2
      | _ => .stuck) else .stuck
  | r => r
section
variable {X : Cx} {W : WX} {x n : Str} {cv : Value} {i : Nat} {body : List Stmt} {E : Expr} {np rp pos pos' : Pos} {mb : AS} {hits : List Addr} {mE : Addr → List (Str × PV) → AE}
theorem js_try (hs : X.stack = X.env :: X.outer) (hf : X.env.frame = some X.env.locals) (hN : X.N.Nodup) (hi : X.N[i]? = some n) (hln : X.env.kindOf n = some .local) (hc : Names X x cv) (tk : Takes X W)
    (hb : ∀ (W : WX) (pn : List (Addr × Obj)) (xe : Value → Shared → Prop), Takes (X.tr pn xe) W → PassesOwn (model X.prog X.w) X.A X.env xe → JSs (X.tr pn xe) W body mb)
    (hh : ∀ c ∈ hits, PySem.W.exmOne X.K (.ref c) cv = some true) (hE : ∀ Y : XC, Y.i = i → Y.c ∈ hits → Y.Ok X n → JX X Y E (mE Y.c Y.fs)) :
    JS X W (.Try body [.ExceptHandler (some (.Name x np)) (some n) [.Return (some E) rp] pos'] [] [] pos) (sTry i hits mb mE) := by
  refine ⟨PSmono (ps_try_as (Wout := W) (i := i) (c := cv) (tb := fun W' => LS (cxKW X) W' mb) (ts := fun a cls d D τ H => ∃ c dd fs, cls = .ref c ∧ d = some dd ∧ c ∈ hits ∧ XE1 (cxKW X) i a dd fs (mE c fs) τ H (fun v H' => D.rt v H')) hs hf hN hi hln hc tk (fun W pn xe t p => (hb W pn xe t p).pss) (fun a oe cls d pn hz hf' => ?_)) fun D τ H ⟨ρ, h, σ, R, S, o⟩ => ?_⟩
  · refine ⟨fun pins s σ H D I ⟨c, dd, fs, hcls, hd, hit, q⟩ => ?_⟩
    subst hcls
    subst hd
    have y : XC.Ok ⟨i, a, dd, oe, pn, c, fs⟩ X n := ⟨hz, hf', hi, .inl hln⟩
    exact (pss_one (ps_ret (hE ⟨i, a, dd, oe, pn, c, fs⟩ rfl hit y).pe)).run pins s σ H D I q
  · refine ⟨ρ, h, σ, R, S, ?_⟩
    unfold sTry at o
    cases r : mb σ h with
    | fin fl σ1 h1 => rw [r] at o; cases fl <;> exact o
    | stuck => rw [r] at o; exact o.elim
    | exc c fs σ1 h1 =>
      rw [r] at o
      dsimp only at o
      split at o
      · rename_i hit
        intro ρ' τ' H' d e R' S' xd
        refine ⟨true, hh c hit.1, fun _ a hna => ?_, fun z => nomatch z⟩
        refine ⟨c, d, fs, rfl, rfl, hit.1, ρ', h1, σ1.set i none, R', S'.unset i _, ⟨?_, xd⟩, ?_⟩
        · rw [List.getElem?_set_self (by rw [S'.len]; exact hit.2)]
        · cases q : mE c fs (σ1.set i none) h1 with
          | ok v h2 =>
            rw [q] at o
            exact fun ρ2 H2 y e2 R2 r2 => o ρ2 y H2 (e.trans e2) R2 r2
          | exc _ _ _ => rw [q] at o; exact o.elim
          | stuck => rw [q] at o; exact o.elim
      · exact o.elim
end
end AB

/-! AB20: what the written part says of the own errors, as facts -/
namespace AB
open PySem PySem.Spec
open PyProof.Rows hiding St
open L2 NdefX
def clsBody : Stmt → List Stmt
  | .ClassDef (body := b) .. => b
  | _ => []
/-- the n-th statement of a class -/
def clsSt (st : Stmt) (n : Nat) : Stmt := (clsBody st).getD n (.Pass ⟨0, 0, 0, 0⟩)
/-- the class's __init__, as it stands -/
structure InitK (P : Program) (K : PySem.W.Frag) (C : Addr) (st : Stmt) : Prop where
  ex : ∃ (f cc c : Addr) (doc pm ctv oc occ coc : Value) (od odc cod : Option Addr) (osl slc cosl : Array (Option Value)) (cvs : Array Value) (file : Str) (tf : Tok) (q : Str),
    PySem.W.findIn K (.ref C) "__init__" = some (some (.ref f)) ∧ PySem.W.typeIn K (.ref f) = some (.type "function") ∧ K.lookup f = some ⟨oc, od, .func (PySem.W.fnX "__init__" q (defArgs st) (defBody st) (defScope st) [(("__class__" : Str), cc)] .none .none doc pm none (.ref c) ctv), osl⟩ ∧
    K.lookup cc = some ⟨occ, odc, .cell (some (.ref C)), slc⟩ ∧ PySem.W.codeIn K (.ref c) q = true ∧ K.lookup c = some ⟨coc, cod, .fields cvs, cosl⟩ ∧ cvs[2]? = some (.str file tf) ∧ ((P.main.file : Str) == file) = true
theorem all1 {p : Addr → Prop} {c0 : Addr} (h : p c0) : ∀ c ∈ [c0], p c := fun c hc => by rw [List.mem_singleton.mp hc]; exact h
theorem allC {p : Addr → Prop} {c0 : Addr} {l : List Addr} (h : p c0) (t : ∀ c ∈ l, p c) : ∀ c ∈ c0 :: l, p c := fun c hc => by
  rcases List.mem_cons.mp hc with rfl | hc
  · exact h
  · exact t c hc
theorem tbN {p : Addr → Bool → Prop} : ∀ (c : Addr) (b : Bool), ([] : List (Addr × Bool)).lookup c = some b → p c b := fun c b h => by cases h
theorem tbC {p : Addr → Bool → Prop} {c0 : Addr} {b0 : Bool} {l : List (Addr × Bool)} (h : p c0 b0) (t : ∀ (c : Addr) (b : Bool), l.lookup c = some b → p c b) : ∀ (c : Addr) (b : Bool), ((c0, b0) :: l).lookup c = some b → p c b := fun c b e => by
  rw [List.lookup_cons] at e
  by_cases hc : c == c0
  · rw [hc] at e
    cases e
    rw [beq_iff_eq.mp hc]
    exact h
  · have : (c == c0) = false := by simpa using hc
    rw [this] at e
    exact t c b e
/-- ErrC by looking -/
def errB (K : PySem.W.Frag) (C : Addr) : Bool :=
  (match K.lookup C with
    | some ⟨.type "type", _, .cls cd, sl⟩ => (match cd.mro, sl with
        | .ref C' :: bm, ⟨[_, _, _, _, some (.builtin "ValueError.__new__"), _]⟩ => C' == C && PySem.HandSPX.refsVE bm && cd.hasDict && !cd.hasDel
        | _, _ => false)
    | _ => false)
  && PySem.W.findIn K (.ref C) "__setattr__" == some (some (.builtin "object.__setattr__")) && PySem.W.subIn K (.ref C) (.type "BaseException") == some true && PySem.W.typeIn K (.ref C) == some (.type "type") && PySem.W.keepIn K (.ref C)
  && PySem.W.nsIn K PySem.cStatics "thirdparty.any" == some none && PySem.W.subIn K (.ref C) (.ref C) == some true && PySem.W.ks_superIn K C C "__init__" == some (some (.builtin "ValueError.__init__")) && PySem.W.subIn K (.ref C) (.type "ValueError") == some true
theorem errB_ok {K : PySem.W.Frag} {C : Addr} (h : errB K C = true) : ErrC K C := by
  unfold errB at h
  simp only [Bool.and_eq_true, beq_iff_eq] at h
  obtain ⟨⟨⟨⟨⟨⟨⟨⟨h0, h1⟩, h2⟩, h3⟩, h4⟩, h5⟩, h6⟩, h7⟩, h8⟩ := h
  refine ⟨⟨?_, h1, h2, h3, h4⟩, h5, h6, h7, h8⟩
  split at h0
  · rename_i d cd sl e
    split at h0
    · rename_i C' bm k0 k1 k2 k3 k5 em
      simp only [Bool.and_eq_true, beq_iff_eq, Bool.not_eq_true'] at h0
      obtain ⟨⟨⟨hC, hv⟩, hd⟩, hl⟩ := h0
      subst hC
      obtain ⟨nm, bs, mro, ns, qn, hdd, sn, sb, ab, col, del⟩ := cd
      dsimp only at em hd hl
      subst em hd hl
      exact ⟨nm, qn, ns, bs, bm, sn, sb, ab, col, d, k0, k1, k2, k3, k5, e, hv⟩
    · cases h0
  · cases h0
/-- ExcC by looking -/
def excB (K : PySem.W.Frag) (D : Addr) : Bool :=
  PySem.W.findIn K (.ref D) "__getattribute__" == some (some (.builtin "BaseException.__getattribute__")) && PySem.W.findIn K (.ref D) "__getattr__" == some none && PySem.W.subIn K (.ref D) (.type "BaseException") == some true && PySem.W.hasDictIn K D
  && PySem.W.findIn K (.ref D) "__class__" == some (some (.builtin "object.__class__")) && PySem.W.specialIn K (.builtin "object.__class__") "__get__" == some (some (.builtin "getset_descriptor.__get__")) && PySem.W.takesIn K (.builtin "object.__class__") == some true && PySem.W.mroIn K D (.type "object") == some true
theorem excB_ok {K : PySem.W.Frag} {D : Addr} (h : excB K D = true) : ExcC K D := by
  unfold excB at h
  simp only [Bool.and_eq_true, beq_iff_eq] at h
  obtain ⟨⟨⟨⟨⟨⟨⟨h0, h1⟩, h2⟩, h3⟩, h4⟩, h5⟩, h6⟩, h7⟩ := h
  exact ⟨h0, h1, h2, h3, h4, h5, h6, h7⟩
end AB

namespace AB
open PySem PySem.Spec
open PyProof.Rows hiding St
open L2
/-! zip of two tuples, of two lists -/
def itZip (xs ys : List PV) : AI := ⟨min xs.length ys.length, fun i _ => match xs[i]?, ys[i]? with
  | some x, some y => some (some (.tup [x, y]))
  | _, _ => some none⟩
def itZipL (a b : AI) : AI := ⟨min a.n b.n, fun i h => match a.nxt i h, b.nxt i h with
  | some (some x), some (some y) => some (some (.tup [x, y]))
  | some none, some _ => some none
  | some _, some none => some none
  | _, _ => none⟩
def aItZ (l : AL) : AIt := fun σ h => (l σ h).bind fun xs h1 => match xs with
  | [.tup a, .tup b] => .ok (itZip a b) h1
  | [v, u] => (itL v h1).bind fun a h2 => (itL u h2).bind fun b h3 => .ok (itZipL a b) h3
  | _ => .stuck
section
variable {K : KW} {ρ0 : List Addr} {H0 : Hp}
theorem aiok_zip {xs ys : List PV} {p q : Addr} (r1 : RV K ρ0 H0 (.tup xs) (.ref p)) (r2 : RV K ρ0 H0 (.tup ys) (.ref q)) : AIok K ρ0 H0 (itZip xs ys) (RZ.ItzT K.fr p q) := fun i ρ h H e R => by
  obtain ⟨p', vs, ep, f1, q1⟩ := (r1.mono e).tup_inv
  obtain ⟨q', us, eq, f2, q2⟩ := (r2.mono e).tup_inv
  cases ep; cases eq
  have l1 := q1.len
  have l2 := q2.len
  unfold itZip
  dsimp only
  cases c1 : xs[i]? with
  | none =>
    exact ⟨vs, us, f1.sq, f2.sq, .inl (by have := List.getElem?_eq_none_iff.mp c1; omega)⟩
  | some x =>
    cases c2 : ys[i]? with
    | none => exact ⟨vs, us, f1.sq, f2.sq, .inr (by have := List.getElem?_eq_none_iff.mp c2; omega)⟩
    | some y =>
      obtain ⟨v, ev, rv⟩ := q1.get c1
      obtain ⟨u, eu, ru⟩ := q2.get c2
      refine ⟨⟨vs, us, v, u, f1.sq, f2.sq, ev, eu⟩, fun w H' ⟨T, v', u', e1, hT, e2, g1, g2⟩ => ?_⟩
      have k1 := g1 vs f1.sq
      have k2 := g2 us f2.sq
      rw [ev] at k1; cases k1
      rw [eu] at k2; cases k2
      subst e1; subst e2
      exact tup2_ok R hT rv ru
theorem aiok_zipL {a b : AI} {p q : Addr} (k1 : AIok K ρ0 H0 a (Itl K.fr p)) (k2 : AIok K ρ0 H0 b (Itl K.fr q)) : AIok K ρ0 H0 (itZipL a b) (Itz K.fr p q) := fun i ρ h H e R => by
  have q1 := k1 i ρ h H e R
  have q2 := k2 i ρ h H e R
  unfold itZipL
  dsimp only
  cases c1 : a.nxt i h with
  | none => trivial
  | some o1 =>
    cases c2 : b.nxt i h with
    | none => cases o1 <;> trivial
    | some o2 =>
      rw [c1] at q1; rw [c2] at q2
      cases o1 with
      | none =>
        obtain ⟨xs, s1, l1⟩ := q1
        cases o2 with
        | none => obtain ⟨ys, s2, l2⟩ := q2; exact ⟨xs, ys, s1, s2, .inl l1⟩
        | some y => obtain ⟨⟨ys, u, s2, eu⟩, _⟩ := q2; exact ⟨xs, ys, s1, s2, .inl l1⟩
      | some x =>
        obtain ⟨⟨xs, v, s1, ev⟩, g1⟩ := q1
        cases o2 with
        | none => obtain ⟨ys, s2, l2⟩ := q2; exact ⟨xs, ys, s1, s2, .inr l2⟩
        | some y =>
          obtain ⟨⟨ys, u, s2, eu⟩, g2⟩ := q2
          refine ⟨⟨xs, ys, v, u, s1, s2, ev, eu⟩, fun w H' ⟨T, v', u', e1, hT, e2, f1, f2⟩ => ?_⟩
          have ez := f1 xs s1
          rw [ev] at ez; cases ez
          have ez2 := f2 ys s2
          rw [eu] at ez2; cases ez2
          obtain ⟨_, _, rv⟩ := g1 v H ⟨rfl, fun xs' s' => f1 xs' s'⟩
          obtain ⟨_, _, ru⟩ := g2 u H ⟨rfl, fun ys' s' => f2 ys' s'⟩
          subst e1; subst e2
          exact tup2_ok R hT rv ru
end
section
variable {X : Cx} {W : WX}
theorem itl_of {K : KW} {ρ : List Addr} {H : Hp} {h h' : AH} {v : PV} {x : V} {a : AI} (R : Rep K ρ h H) (r : RV K ρ H v x) (e : itL v h = .ok a h') : h' = h ∧ ∃ p vs, x = .ref p ∧ SqL K.fr H p vs ∧ AIok K ρ H a (Itl K.fr p) := by
  unfold itL at e
  split at e
  · rename_i xs c
    obtain ⟨p, vs, rfl, s, _⟩ := lst_of R r c
    split at e
    · cases e
      exact ⟨rfl, p, vs, rfl, s, aiok_lst r⟩
    · rename_i hv
      cases e
      refine ⟨rfl, p, vs, rfl, s, aiok_vals r fun h => ?_⟩
      cases v with
      | lst ys => exact c
      | ro ys => exact c
      | loc n => exact absurd rfl (hv n)
      | _ => cases c
  · cases e
theorem ji_zip {elts : List Expr} {kk : Nat} {tpos p pos : Pos} {e e2 : Expr} {l : AL} (hm : X.mg "zip" = none) (ha : JA X W [e, e2] l) (hg : Gl X "zip" := by rfl) (hs : starEach [e, e2] X.env = (false, eval e X.env) :: starEach [e2] X.env := by rfl) (hs2 : ((backTo pos (starEach [e2] X.env)).any fun x => x.fst) = false := by rfl) :
    JI X W (.Tuple elts kk tpos) (.Call (.Name "zip" p) [e, e2] [] pos) (aItZ l) :=
  ⟨PImono (RZ.pi_zipA hg hm ha.pa hs hs2) fun τ H Rk ⟨ρ, h, σ, R, S, o⟩ => ⟨ρ, h, σ, R, S, (Out.bind (R := RVs (cxKW X)) o).mono fun x H1 ⟨ρ1, v, h1, e1, R1, q1, o1⟩ => by
    split at o1
    · obtain ⟨w, w', rfl, r, r'⟩ := two_inv q1
      obtain ⟨p1, vs, rfl, f1, _⟩ := r.tup_inv
      obtain ⟨p2, us, rfl, f2, _⟩ := r'.tup_inv
      exact ⟨p1, p2, vs, us, rfl, .inr ⟨f1.sq, f2.sq, Out.done o1 R1 (aiok_zip r r')⟩⟩
    · rename_i v u _
      obtain ⟨w, w', rfl, r, r'⟩ := two_inv q1
      cases c1 : itL v h1 with
      | stuck => rw [c1] at o1; exact o1.elim
      | exc c fs g => unfold itL at c1; split at c1 <;> (try split at c1) <;> cases c1
      | ok a g =>
        obtain ⟨rfl, p1, vs, rfl, s1, k1⟩ := itl_of R1 r c1
        rw [c1, Res.bind_ok] at o1
        cases c2 : itL u g with
        | stuck => rw [c2] at o1; exact o1.elim
        | exc c fs g => unfold itL at c2; split at c2 <;> (try split at c2) <;> cases c2
        | ok b g2 =>
          obtain ⟨rfl, p2, us, rfl, s2, k2⟩ := itl_of R1 r' c2
          rw [c2, Res.bind_ok] at o1
          exact ⟨p1, p2, vs, us, rfl, .inl ⟨s1, s2, Out.done o1 R1 (aiok_zipL k1 k2)⟩⟩
    · exact o1.elim⟩⟩
end
end AB

namespace AB
open PySem PySem.Spec
open PyProof.Rows hiding St
open L2
/-! AB22: sorted of a list of pairs of ints, the pairs made or handed in -/
def prI (p : Int × Int) : PV := .tup [.int p.1, .int p.2]
def pairsOf : List PV → Option (List (Int × Int))
  | [] => some []
  | .tup [.int i, .int j] :: r => (pairsOf r).map ((i, j) :: ·)
  | _ :: _ => none
theorem pairsOf_map : ∀ ps : List (Int × Int), pairsOf (ps.map prI) = some ps
  | [] => rfl
  | p :: ps => by
    show (pairsOf (ps.map prI)).map _ = _
    rw [pairsOf_map ps]; rfl
theorem pairsOf_eq : ∀ {xs : List PV} {ps : List (Int × Int)}, pairsOf xs = some ps → xs = ps.map prI
  | [], ps, e => by cases e; rfl
  | x :: xs, ps, e => by
    unfold pairsOf at e
    split at e
    · rename_i h; cases h
    · rename_i i j r h
      cases h
      obtain ⟨qs, e1, rfl⟩ := Option.map_eq_some_iff.mp e
      rw [pairsOf_eq e1]; rfl
    · cases e
def rSortPT (K : PySem.W.Frag) : List V → Hp → VK → Prop := fun vs H Q => ∃ (a : Addr) (xs : List V) (ps : List (Int × Int)), vs = [V.ref a] ∧ SqL K H a xs ∧ ps.length = xs.length ∧
  (∀ (i : Nat) (x : V) (p : Int × Int), xs[i]? = some x → ps[i]? = some p → ∃ t, x = V.ref t ∧ SqT K H t [.int p.1, .int p.2]) ∧
  ∀ (zs : List (V × (Int × Int))) (d : Addr), zs.Perm (xs.zip ps) → (zs.map (·.2)).Pairwise (fun p q => SrtO.lexB q p = false) → H d = none → Q (.ref d) (upd H d (.lst (zs.map (·.1))))
theorem cr_sortPT {X : Cx} : CallR X (.builtin "sorted") (rSortPT X.K) := by
  intro pins s σ H vs us Q I r h
  obtain ⟨a, xs, ps, rfl, hs, hl, hx, q⟩ := h
  obtain ⟨its, rv, hl', hz⟩ := I.list hs
  obtain ⟨u, rfl, ru⟩ := vals1 r
  obtain rfl : u = Value.ref a := ru
  obtain ⟨e1, e2⟩ := refs_back rv fun x m => by
    obtain ⟨i, hi, e⟩ := List.getElem_of_mem m
    obtain ⟨t, e', _⟩ := hx i x (ps[i]'(by omega)) (by rw [List.getElem?_eq_getElem hi, e]) (by rw [List.getElem?_eq_getElem (by omega)])
    exact ⟨t, e'⟩
  let W : Value → Int × Int → Prop := fun u p => ∃ t, u = Value.ref t ∧ SqT X.K H t [.int p.1, .int p.2]
  obtain ⟨k, hk⟩ : ∃ k : Value → Int × Int, ∀ u p, W u p → k u = p := by
    classical
    refine ⟨fun u => if h : ∃ p, W u p then Classical.choose h else (0, 0), fun u p hp => ?_⟩
    have h : ∃ p, W u p := ⟨p, hp⟩
    show (if h : ∃ p, W u p then Classical.choose h else (0, 0)) = p
    rw [dif_pos h]
    obtain ⟨t, e, s1⟩ := Classical.choose_spec h
    obtain ⟨t', e', s2⟩ := hp
    rw [e] at e'
    cases e'
    have e3 := I.tuple_inj s1 s2
    injection e3 with e4 e5
    injection e5 with e6 _
    exact Prod.ext (V.int.inj e4) (V.int.inj e6)
  have ln : its.length = xs.length := rv.length.symm
  have wi : ∀ (i : Nat) (u : Value), its[i]? = some u → ∃ p, ps[i]? = some p ∧ W u p ∧ k u = p := fun i u eu => by
    have hi : i < its.length := (List.getElem?_eq_some_iff.mp eu).1
    have ex : xs[i]? = some (backV u) := by rw [e1, List.getElem?_map, eu]; rfl
    have ep : ps[i]? = some (ps[i]'(by omega)) := List.getElem?_eq_getElem (by omega)
    obtain ⟨t, e, sq⟩ := hx i _ _ ex ep
    obtain ⟨t', rfl⟩ := e2 u (List.mem_of_getElem? eu)
    cases e
    exact ⟨_, ep, ⟨t, rfl, sq⟩, hk _ _ ⟨t, rfl, sq⟩⟩
  have eps : ps = its.map k := List.ext_getElem? fun i => by
    rw [List.getElem?_map]
    cases c : its[i]? with
    | none => exact List.getElem?_eq_none (by have := List.getElem?_eq_none_iff.mp c; omega)
    | some u => obtain ⟨p, ep, _, ek⟩ := wi i u c; rw [ep, ← ek]; rfl
  have ezip : xs.zip ps = its.map fun u => (backV u, k u) := by rw [e1, eps]; exact List.zip_map'
  refine SrtO.sorted_pairsO (k := k) hl'.isList (by rw [← rv.length]; exact hz) (fun v hv => ?_) fun h' d out h1 h2 kp hd hn => ?_
  · obtain ⟨i, hi, e⟩ := List.getElem_of_mem hv
    obtain ⟨p, _, ⟨t, rfl, sq⟩, ek⟩ := wi i v (by rw [List.getElem?_eq_getElem hi, e])
    obtain ⟨its2, r2, ⟨o, ho, hc, n, hd⟩, _⟩ := I.tuple sq
    obtain ⟨u1, u2, rfl, ri, rj⟩ := vals2 r2
    obtain ⟨t1, rfl⟩ := ri
    obtain ⟨t2, rfl⟩ := rj
    rw [ek]
    exact ⟨t, o, t1, t2, n, rfl, ho, hc, hd⟩
  · have h3 : ∀ u ∈ out, ∃ a, u = Value.ref a := fun u hu => e2 u (h2.perm.mem_iff.mp hu)
    obtain ⟨n, hn⟩ := hn
    have hlen : (out.map backV).length = xs.length := by rw [List.length_map, h2.perm.length_eq]; exact ln
    refine ⟨.ref d, upd H d (.lst (out.map backV)), I.laid (t' := s.toks) kp hd ⟨?_, out, n, vals_back h3, hn⟩, rfl, ?_⟩
    · rw [hlen]; exact hz
    · have := q (out.map fun u => (backV u, k u)) d (by rw [ezip]; exact h2.perm.map _) (by rw [List.map_map]; exact List.pairwise_map.mpr h1) (I.hok.fresh hd)
      rw [List.map_map] at this
      exact this
def lePI (p q : Int × Int) : Bool := !SrtO.lexB q p
def fnSortA : FN
  | [v], h => match (seqOf v h).bind intsOf with
    | some ns => if ns.length < 64 then new (.lst ((ns.mergeSort (fun a b => decide (a ≤ b))).map .int)) h else .stuck
    | none => match (lstOf v h).bind pairsOf with
      | some ps => new (.lst ((ps.mergeSort lePI).map prI)) h
      | none => .stuck
  | _, _ => .stuck
theorem lePI_iff {p q : Int × Int} : lePI p q = true ↔ ¬ (q.1 < p.1 ∨ (q.1 = p.1 ∧ q.2 < p.2)) := by
  unfold lePI
  rw [Bool.not_eq_true', SrtO.lexB_no]
theorem sort_pairs {ps qs : List (Int × Int)} (p : qs.Perm ps) (s : qs.Pairwise fun p q => lePI p q = true) : qs = ps.mergeSort lePI := by
  have h2 : (ps.mergeSort lePI).Pairwise fun p q => lePI p q = true :=
    List.pairwise_mergeSort (le := lePI) (fun a b c h1 h2 => by
      rw [lePI_iff] at h1 h2 ⊢
      omega) (fun a b => by
      rw [Bool.or_eq_true, lePI_iff, lePI_iff]
      omega) ps
  exact List.Perm.eq_of_pairwise (le := fun p q => lePI p q = true) (fun a b _ _ h1 h2 => by
    rw [lePI_iff] at h1 h2
    exact Prod.ext (by omega) (by omega)) s h2 (p.trans (List.mergeSort_perm ps _).symm)
theorem j_sortA {X : Cx} : JFn X (.builtin "sorted") fnSortA := jfn (CallR.or cr_sortLT cr_sortPT) fun ρ h H τ W xs vs Q R r o => by
  unfold fnSortA at o
  split at o
  · obtain ⟨v, rfl, q⟩ := one_inv r
    split at o
    · rename_i ns e
      split at o
      · rename_i hz
        obtain ⟨ys, e1, e2⟩ := Option.bind_eq_some_iff.mp e
        have e3 := intsOf_eq e2
        subst e3
        obtain ⟨p, zs, rfl, s, qq⟩ := seq_of R q e1
        rw [qq.ints] at s
        refine .inl ⟨p, ns, rfl, s, hz, fun ms l hp hs hl => ?_⟩
        rw [sort_the hp hs]
        exact new_lst R (.of_ints _) o l hl
      · exact o.elim
    · split at o
      · rename_i ps e
        obtain ⟨ys, e1, e2⟩ := Option.bind_eq_some_iff.mp e
        have e3 := pairsOf_eq e2
        subst e3
        obtain ⟨p, us, rfl, s, qq⟩ := lst_of R q e1
        have lq := qq.len
        have rvs : ∀ (x : V) (pr : Int × Int), (x, pr) ∈ us.zip ps → RV (cxKW X) ρ H (prI pr) x := fun x pr hm => by
          obtain ⟨i, hi, e⟩ := List.getElem_of_mem hm
          have e' : (us.zip ps)[i]? = some (x, pr) := by rw [List.getElem?_eq_getElem hi, e]
          obtain ⟨a1, a2⟩ := List.getElem?_zip_eq_some.mp e'
          obtain ⟨w, ew, rw'⟩ := qq.get (i := i) (x := prI pr) (by rw [List.getElem?_map, a2]; rfl)
          rw [a1] at ew; cases ew
          exact rw'
        refine .inr ⟨p, us, ps, rfl, s, by simpa using lq.symm, fun i x pr a1 a2 => ?_, fun zs d hp hs hd => ?_⟩
        · have r0 := rvs x pr (List.mem_of_getElem? (i := i) (List.getElem?_zip_eq_some.mpr ⟨a1, a2⟩))
          obtain ⟨t, ws, rfl, f, qw⟩ := r0.tup_inv
          have : ws = [.int pr.1, .int pr.2] := RVs.ints (ns := [pr.1, pr.2]) qw
          subst this
          exact ⟨t, rfl, f.sq⟩
        · have es : zs.map (·.2) = ps.mergeSort lePI := by
            refine sort_pairs ?_ ?_
            · have := hp.map (·.2)
              have e4 : (us.zip ps).map (·.2) = ps := by
                rw [← List.unzip_snd, List.unzip_zip_right (by simpa using Nat.le_of_eq lq.symm)]
              rw [e4] at this; exact this
            · exact hs.imp fun h => by unfold lePI; rw [h]; rfl
          have rr : RVs (cxKW X) ρ H ((ps.mergeSort lePI).map prI) (zs.map (·.1)) := by
            rw [← es, List.map_map]
            refine ⟨by simp, fun i x v g1 g2 => ?_⟩
            rw [List.getElem?_map] at g1 g2
            obtain ⟨z, ez, rfl⟩ := Option.map_eq_some_iff.mp g1
            rw [ez] at g2
            cases g2
            exact rvs z.1 z.2 (hp.mem_iff.mp (List.mem_of_getElem? ez))
          exact new_lst R rr o d hd
      · exact o.elim
  · exact o.elim
theorem fnSortA_LT {v : PV} {h : AH} {r : Res PV} (hr : r ≠ .stuck) (e : fnSortLT [v] h = r) : fnSortA [v] h = r := by
  unfold fnSortLT at e
  unfold fnSortA
  dsimp only at e ⊢
  cases c : (seqOf v h).bind intsOf with
  | some ns => rw [c] at e; exact e
  | none => rw [c] at e; exact absurd e.symm hr
/-- pairs that are in order already -/
theorem fnSortA_srt {v : PV} {h : AH} {ps : List (Int × Int)} (e : lstOf v h = some (ps.map prI)) (e2 : seqOf v h = some (ps.map prI)) (s : ps.Pairwise fun p q => lePI p q = true) : fnSortA [v] h = .ok (.loc h.length) (h ++ [.lst (ps.map prI)]) := by
  unfold fnSortA
  dsimp only
  rw [e2, Option.bind_some]
  cases ps with
  | nil =>
    show (if ([] : List Int).length < 64 then new (.lst (([].mergeSort fun a b => decide (a ≤ b)).map PV.int)) h else .stuck) = _
    rw [if_pos (by decide), List.mergeSort_nil]; rfl
  | cons p ps =>
    have e3 : intsOf ((p :: ps).map prI) = none := rfl
    rw [e3, e, Option.bind_some, pairsOf_map]
    dsimp only
    rw [← sort_pairs (List.Perm.refl _) s]
    rfl
end AB

/-! AB23: a tuple in steps of 1 or -1, the step worked out; a, b = a list; list.index of data -/
namespace AB
open PySem PySem.Spec
open PyProof.Rows hiding St
open L2
section
variable {prog : Program} {w : World} {A : Around} {E : Value → Shared → Prop} {s : Shared}
theorem adjust_one (n : Nat) : Builtin.Slice.sliceAdjust none none 1 (n : Int) = (0, (n : Int)) := by
  unfold Builtin.Slice.sliceAdjust
  have h1 : ¬ ((1 : Int) < 0) := by omega
  simp only [h1, if_false]
theorem places_one (n : Nat) : Builtin.Slice.slicePlaces 0 (n : Int) 1 = n := by
  unfold Builtin.Slice.slicePlaces
  have h1 : ((1 : Int) > 0) := by omega
  simp only [h1, if_true]
  have e : ((n : Int) - 0 - 1) / 1 = (n : Int) - 1 := by rw [Int.ediv_one]; omega
  rw [e]
  split <;> omega
theorem applied_one {sl : Addr} {u : Tok} {n : Nat} {R : Int × Int × Nat → Shared → Prop} (hs : s.heap.IsSliceOf sl .none .none (.int 1 u)) (q : R (0, 1, n) s) :
    wpAny (model prog w) A (Builtin.Slice.sliceApplied (.ref sl) (pure (n : Int))) R E s := by
  obtain ⟨os, hos, hcs, hds⟩ := id hs
  unfold Builtin.Slice.sliceApplied Builtin.Slice.sliceFields
  refine wpAny_bind (wpAny_bind (wpAny_field hos hds (x := .none) rfl (wpAny_bind (wpAny_field hos hds (x := .none) rfl (wpAny_bind (wpAny_field hos hds (x := .int 1 u) rfl (wpAny_pure ?_)))))))
  refine wpAny_bind (PyProof.Rows.slicePart_int ?_)
  show wpAny _ _ (if ((1 : Int) == 0) = true then _ else _) _ _ s
  rw [if_neg (by decide)]
  refine wpAny_bind (PyProof.Rows.slicePart_none (wpAny_bind (PyProof.Rows.slicePart_none (wpAny_bind (wpAny_pure ?_)))))
  show wpAny _ _ (match Builtin.Slice.sliceAdjust none none 1 (n : Int) with | (lo, hi) => pure (lo, (1 : Int), Builtin.Slice.slicePlaces lo hi 1)) _ _ s
  rw [adjust_one]
  show wpAny _ _ (pure ((0 : Int), (1 : Int), Builtin.Slice.slicePlaces 0 (n : Int) 1)) _ _ s
  rw [places_one]
  exact wpAny_pure q
theorem item_tuple_one {t sl : Addr} {its : Array Value} {u : Tok} {R : Value → Shared → Prop} (ht : IsTup s.heap t its) (hs : s.heap.IsSliceOf sl .none .none (.int 1 u)) (hz : its.size ≤ sizeLine)
    (q : R (.ref t) s) : wpAny (model prog w) A (getItem (.ref t) (.ref sl)) R E s := by
  obtain ⟨os, hos, hcs, hds⟩ := id hs
  have hT : s.TypeIs (.ref sl) "slice" := ⟨os, hos, hcs⟩
  unfold getItem
  try with_reducible refine wpAny_holding ?_
  first | refine wpAny_bind (wpAny_pure ?_) | skip
  refine wpAny_bind (wpAny_sequenceKey ht.typeIs (by decide) ?_)
  refine wpAny_bind (wpAny_callSpecial?_slot (name := Str.ofString "__getitem__") ht.typeIs PyProof.Rows.slot_tuple_getitem (wpAny_call_entry PyProof.Rows.slot_tuple_getitem ht.typeIs PyProof.Rows.entry_tuple_getitem ?_ (PyProof.Rows.args_tuple_getitem _ _)))
  show wpAny _ _ (Builtin.Tuple.tupleItemsOf (.ref t) >>= _) _ _ s
  refine wpAny_bind (PyProof.Rows.tupleItemsOf_ ht ?_)
  refine wpAny_bind (wpAny_typeOf hT ?_)
  rw [if_pos (by decide)]
  refine wpAny_bind (applied_one hs ?_)
  show wpAny _ _ (if ((0 : Int) == 0 && (1 : Int) == 1 && its.size == its.size) = true then _ else _) _ _ s
  rw [if_pos (by simp)]
  unfold Builtin.Tuple.tupleIsExact
  refine wpAny_bind (wpAny_bind (wpAny_typeOf ht.typeIs (wpAny_pure ?_)))
  rw [if_pos (by decide)]
  first
    | exact wpAny_bind (wpAny_rule (wpAny_pure ⟨_, rfl, wpAny_pure q⟩))
    | exact wpAny_bind (wpAny_rule (wpAny_pure (wpAny_pure ⟨_, rfl, wpAny_pure q⟩)))
end
def qSt (K : PySem.W.Frag) (a : Addr) (xs : List V) (Q : VK) (i : Int) (H : Hp) : Prop := SqT K H a xs ∧ ((i = 1 ∧ Q (.ref a) H) ∨ (i = -1 ∧ ∀ p, H p = none → Q (.ref p) (upd H p (.tup xs.reverse))))
def tStT (K : PySem.W.Frag) (te ts : TE) : TE := fun σ H Q => te σ H fun x H1 => ∃ a xs, x = .ref a ∧ ts σ H1 fun y H2 => ∃ i, y = .int i ∧ qSt K a xs Q i H2
theorem pe_stT {X : Cx} {e se : Expr} {te ts : TE} {p3 pos : Pos} (he : PE X e te) (hs : PE X se ts) : PE X (.Subscript e (.Slice none none (some se) p3) pos) (tStT X.K te ts) := by
  refine ⟨fun pins s σ H Q I h => ?_⟩
  refine Subscript_ (thn (he.run pins s σ H _ I h) fun v s1 ⟨x, H1, I1, r1, q1⟩ => ?_)
  obtain ⟨a, xs, ex, q⟩ := q1
  subst ex
  cases r1
  have st : PO X (some se) (tPart ts) := po_some hs
  refine wpAny_Slice (thn (po_none.run pins s1 σ H1 (fun o G => o = none ∧ G = H1) I1 ⟨rfl, rfl⟩) fun vl s2 ⟨l, H2, I2, pl, el, e2⟩ => ?_)
  subst el e2
  refine thn (po_none.run pins s2 σ H2 (fun o G => o = none ∧ G = H2) I2 ⟨rfl, rfl⟩) fun vu s3 ⟨u, H3, I3, pu, eu, e3⟩ => ?_
  subst eu e3
  refine thn (st.run pins s3 σ H3 (fun o G => match o with | some i => qSt X.K a xs Q i G | none => False) I3 q) fun vs s4 ⟨o, H4, I4, ps, q4⟩ => ?_
  cases pl
  cases pu
  cases o with
  | none => exact q4.elim
  | some i =>
    obtain ⟨hx, q5⟩ : qSt X.K a xs Q i H4 := q4
    obtain ⟨tk, rfl⟩ : ∃ tk, vs = .int i tk := by cases ps; exact ⟨_, rfl⟩
    have I5 : L2.Inv X pins σ H4 { s4 with heap := s4.heap.push { cls := .type "slice", data := .fields #[.none, .none, .int i tk] } } := I4.kept (t' := s4.toks) fun b ob q => Heap.get?_push_of_some _ q
    obtain ⟨its, r, ht, hz⟩ := I5.tuple hx
    have hl := r.length
    show wpAny (model X.prog X.w) X.A (subscriptTail e (.Slice none none (some se) p3) (.ref a) (.ref s4.heap.objs.size)) (EP X pins σ Q) X.xe { s4 with heap := s4.heap.push { cls := .type "slice", data := .fields #[.none, .none, .int i tk] } }
    refine tail_any (ops := [.ref a, .ref s4.heap.objs.size]) ht.typeIs PyProof.Rows.slot_tuple_getitem.lookup ?_ (by with_unfolding_all rfl)
    rcases q5 with ⟨rfl, q⟩ | ⟨rfl, q⟩
    · refine item_tuple_one ht (Heap.IsSliceOf.new _ _ _ _) (by rw [List.size_toArray]; omega) ?_
      exact ⟨.ref a, H4, I5, rfl, q⟩
    · refine item_tuple_rev ht (Heap.IsSliceOf.new _ _ _ _) (by rw [List.size_toArray]; omega) ?_
      refine ⟨.ref _, _, I5.laid (t' := s4.toks) (o := .tup xs.reverse) (fun b ob q => Heap.get?_push_of_some _ q) (Nat.le_refl _) ?_, rfl, q _ (I5.hok.fresh (Nat.le_refl _))⟩
      exact ⟨by rw [List.length_reverse]; exact hz, _, r.reverse, IsTup.new _ _⟩
def aStT (m m2 : AE) : AE := fun σ h => (m σ h).bind fun x h1 => match x with
  | .tup xs => (m2 σ h1).bind fun y h2 => match y with
    | .int k => if k = 1 then .ok (.tup xs) h2 else if k = -1 then .ok (.tup xs.reverse) h2 else .stuck
    | _ => .stuck
  | _ => .stuck
theorem je_stT {X : Cx} {W : WX} {e se : Expr} {m m2 : AE} {pos p3 : Pos} (he : JE X W e m) (hs : JE X W se m2) : JE X W (.Subscript e (.Slice none none (some se) p3) pos) (aStT m m2) :=
  ⟨PEmono (pe_stT he.pe hs.pe) fun τ H Q ⟨ρ, h, σ, R, S, o⟩ => ⟨ρ, h, σ, R, S, (Out.bind (R := RV (cxKW X)) o).mono fun x H1 ⟨ρ1, v, h1, e1, R1, q1, o1⟩ => by
    cases v with
    | tup xs =>
      obtain ⟨p, vs, rfl, f, r⟩ := q1.tup_inv
      refine ⟨p, vs, rfl, ρ1, h1, σ, R1, S.mono e1, (Out.bind (R := RV (cxKW X)) o1).mono fun y H2 ⟨ρ2, u, h2, e2, R2, q2, o2⟩ => ?_⟩
      cases u with
      | int k =>
        rw [q2.int_inv]
        dsimp only at o2
        have f2 := f.mono e2
        split at o2
        · rename_i c
          exact ⟨k, rfl, f2.sq, .inl ⟨c, Out.done o2 R2 (q1.mono e2)⟩⟩
        · split at o2
          · rename_i c
            exact ⟨k, rfl, f2.sq, .inr ⟨c, new_tup R2 (r.mono e2).reverse o2⟩⟩
          · exact o2.elim
      | _ => exact o2.elim
    | _ => exact o1.elim⟩⟩
def gTupL (n : Nat) (g : AGs) : AG := fun x σ h => match lstOf x h with
  | some xs => if xs.length = n then g xs σ h else none
  | none => none
theorem jg_tupL {X : Cx} {es : List Expr} {k : Nat} {g : AGs} {n : Nat} {pos : Pos} (hc : X.calm = true) (h : JGs X es g) (hn : (assignEach es X.env).length = n := by rfl) (hst : (assignEach es X.env).findIdx? (·.1) = none := by rfl) : JG X (.Tuple es k pos) (gTupL n g) :=
  ⟨PGmono (pg_unl hc h.pgs hn hst) fun v τ H Q ⟨ρ, h, σ, y, R, S, r, o⟩ => by
    unfold gTupL at o
    split at o
    · rename_i xs e
      obtain ⟨p, vs, rfl, s, q⟩ := lst_of R r e
      split at o
      · rename_i hz
        exact ⟨p, vs, rfl, s, by rw [q.len]; exact hz, ρ, h, σ, xs, R, S, q, o⟩
      · exact o.elim
    · exact o.elim⟩
def mIndexD : FM := fun v xs h => match xs with
  | [y] => match (lstOf v h).bind dats, dat y with
    | some ds, some d => if SeqAt.shaped (.list ds) = true ∧ SeqAt.shaped d = true then (match ds.findIdx? (fun z => PyData.eqv z d) with
      | some j => .ok (.int (j : Nat)) h
      | none => .stuck) else .stuck
    | _, _ => .stuck
  | _ => .stuck
theorem j_indexD {X : Cx} (hu : X.A.units + 65 < cLine) : JM X "list" "index" mIndexD := ⟨_, _, PySem.F.plainAttrs_list, PySem.F.slot_list_index, PySem.F.type_list_index, mt_indexD hu, fun ρ h H τ W v x xs vs Q R r rs o => by
  unfold mIndexD at o
  split at o
  · rename_i y
    obtain ⟨w, rfl, q⟩ := one_inv rs
    split at o
    · rename_i ds d e1 e2
      split at o
      · rename_i c
        split at o
        · rename_i j ej
          obtain ⟨us, e3, e4⟩ := Option.bind_eq_some_iff.mp e1
          obtain ⟨p, ws, rfl, s, qq⟩ := lst_of R r e3
          obtain ⟨hj, hp, hno⟩ := List.findIdx?_eq_some_iff_getElem.mp ej
          refine ⟨p, w, d, ds, j, ds[j], rfl, rfl, ?_, dat_dp e2 q, c.1, c.2, List.getElem?_eq_getElem hj, hp, fun m z' hm hz => ?_, Out.done o R (.int _)⟩
          · exact .lst s (dats_dp e4 qq)
          · obtain ⟨hm2, rfl⟩ := List.getElem?_eq_some_iff.mp hz
            have := hno m hm
            simpa using this
        · exact o.elim
      · exact o.elim
    · exact o.elim
  · exact o.elim⟩
section
variable {X : Cx}
def rNinDT (K : PySem.W.Frag) : R2 := fun x y H Q => ∃ d ds, Dp K H x d ∧ (Dp K H y (.list ds) ∨ Dp K H y (.tuple ds)) ∧ SeqAt.shaped d = true ∧ SeqAt.shaped (.list ds) = true ∧ SeqAt.shaped (.tuple ds) = true ∧ Q (.bl (!ds.any fun z => PyData.eqv z d)) H
theorem op_ninDT (hu : X.A.units + 65 < cLine) : OpR X (compareOp .NotIn) (rNinDT X.K) := by
  intro pins s σ H x y v u Q I rx ry h
  obtain ⟨d, ds, hd, he, sd, se, st, q⟩ := h
  obtain ⟨as, r1⟩ := Dp.reads I d x v hd rx
  rcases he with he | he
  · obtain ⟨bs, r2⟩ := Dp.reads I (.list ds) y u he ry
    exact SeqAt.notIn_list_reads r2 r1 (SeqAt.canLay_of_shaped se) (SeqAt.canLay_of_shaped sd) (room_in_shaped sd hu) ⟨.bl _, H, I, rfl, q⟩
  · obtain ⟨bs, r2⟩ := Dp.reads I (.tuple ds) y u he ry
    exact SeqAt.notIn_tuple_reads r2 r1 (SeqAt.canLay_of_shaped st) (SeqAt.canLay_of_shaped sd) (room_in_shaped sd hu) ⟨.bl _, H, I, rfl, q⟩
theorem j_ninD (hu : X.A.units + 65 < cLine) : JOp X (compareOp .NotIn) fNinD := jop (op_ninDT hu) fun ρ h H τ W x y v u Q R r1 r2 o => by
  unfold fNinD fInD at o
  cases e1 : dat v with
  | none => rw [e1] at o; exact o.elim
  | some d =>
    cases e2 : (seqOf u h).bind dats with
    | none => rw [e1, e2] at o; exact o.elim
    | some ds =>
      rw [e1, e2] at o
      dsimp only at o
      by_cases c : SeqAt.shaped d = true ∧ SeqAt.shaped (.list ds) = true ∧ SeqAt.shaped (.tuple ds) = true
      · rw [if_pos c] at o
        exact ⟨d, ds, dat_dp e1 r1, seq_dp R r2 e2, c.1, c.2.1, c.2.2, Out.done o R (.bl _)⟩
      · rw [if_neg c] at o; exact o.elim
end
end AB

namespace G20
open PySem PySem.Spec
open PyProof.Rows hiding St
open L2 AB
def topS (i : Nat) : Stmt := PySem.Challenge.pw_keptasatree_k20_steps.main.body.getD i (.Pass ⟨0, 0, 0, 0⟩)
abbrev s_is_integer : Stmt := topS 5
abbrev sN_is_integer : List Str := ["thing"]
theorem sc_is_integer : FnScope sN_is_integer ["thing"] (defScope s_is_integer) := ⟨rfl, rfl, rfl, by decide +kernel, rfl, by decide +kernel, by decide +kernel⟩
abbrev s_tuple_of : Stmt := topS 6
abbrev sN_tuple_of : List Str := ["thing", "many"]
theorem sc_tuple_of : FnScope sN_tuple_of ["thing", "many"] (defScope s_tuple_of) := ⟨rfl, rfl, rfl, by decide +kernel, rfl, by decide +kernel, by decide +kernel⟩
abbrev s_ends_of : Stmt := topS 9
abbrev sN_ends_of : List Str := ["net", "line"]
theorem sc_ends_of : FnScope sN_ends_of ["net", "line"] (defScope s_ends_of) := ⟨rfl, rfl, rfl, by decide +kernel, rfl, by decide +kernel, by decide +kernel⟩
abbrev s_merged : Stmt := topS 10
abbrev sN_merged : List Str := ["homes", "one", "other", "first", "second", "place", "home"]
theorem sc_merged : FnScope sN_merged ["homes", "one", "other"] (defScope s_merged) := ⟨rfl, rfl, rfl, by decide +kernel, rfl, by decide +kernel, by decide +kernel⟩
abbrev s_all_lines : Stmt := topS 13
abbrev sN_all_lines : List Str := ["net"]
theorem sc_all_lines : FnScope sN_all_lines ["net"] (defScope s_all_lines) := ⟨rfl, rfl, rfl, by decide +kernel, rfl, by decide +kernel, by decide +kernel⟩
abbrev s_exchanged : Stmt := topS 23
abbrev sN_exchanged : List Str := ["tree", "exchange", "closed", "opened", "line"]
theorem sc_exchanged : FnScope sN_exchanged ["tree", "exchange"] (defScope s_exchanged) := ⟨rfl, rfl, rfl, by decide +kernel, rfl, by decide +kernel, by decide +kernel⟩
abbrev s_fewest_steps : Stmt := topS 26
abbrev sN_fewest_steps : List Str := ["one", "other", "line"]
theorem sc_fewest_steps : FnScope sN_fewest_steps ["one", "other"] (defScope s_fewest_steps) := ⟨rfl, rfl, rfl, by decide +kernel, rfl, by decide +kernel, by decide +kernel⟩
abbrev s__law_crock : Stmt := topS 33
abbrev sN__law_crock : List Str := ["script", "great", "churned", "cell", "size"]
theorem sc__law_crock : FnScope sN__law_crock ["script"] (defScope s__law_crock) := ⟨rfl, rfl, rfl, by decide +kernel, rfl, by decide +kernel, by decide +kernel⟩
abbrev s__law_tip : Stmt := topS 34
abbrev sN__law_tip : List Str := ["crock", "many", "size"]
theorem sc__law_tip : FnScope sN__law_tip ["crock", "many"] (defScope s__law_tip) := ⟨rfl, rfl, rfl, by decide +kernel, rfl, by decide +kernel, by decide +kernel⟩
abbrev s__law_same : Stmt := topS 36
abbrev sN__law_same : List Str := ["told", "due", "left", "one", "other", "at"]
theorem sc__law_same : FnScope sN__law_same ["told", "due"] (defScope s__law_same) := ⟨rfl, rfl, rfl, by decide +kernel, rfl, by decide +kernel, by decide +kernel⟩
abbrev s__law_way : Stmt := topS 39
abbrev sN__law_way : List Str := ["net", "tree", "one", "other", "ways", "todo", "here", "line", "a", "b", "near", "far"]
theorem sc__law_way : FnScope sN__law_way ["net", "tree", "one", "other"] (defScope s__law_way) := ⟨rfl, rfl, rfl, by decide +kernel, rfl, by decide +kernel, by decide +kernel⟩
abbrev s__law_after : Stmt := topS 41
abbrev sN__law_after : List Str := ["state", "exchange", "line"]
theorem sc__law_after : FnScope sN__law_after ["state", "exchange"] (defScope s__law_after) := ⟨rfl, rfl, rfl, by decide +kernel, rfl, by decide +kernel, by decide +kernel⟩
abbrev s__law_whole : Stmt := topS 43
abbrev sN__law_whole : List Str := ["thing"]
theorem sc__law_whole : FnScope sN__law_whole ["thing"] (defScope s__law_whole) := ⟨rfl, rfl, rfl, by decide +kernel, rfl, by decide +kernel, by decide +kernel⟩
abbrev s_are_integers : Stmt := topS 7
abbrev sN_are_integers : List Str := ["thing", "part"]
theorem sc_are_integers : FnScope sN_are_integers ["thing"] (defScope s_are_integers) := ⟨rfl, rfl, rfl, by decide +kernel, rfl, by decide +kernel, by decide +kernel⟩
abbrev s_homes_by : Stmt := topS 11
abbrev sN_homes_by : List Str := ["net", "lines", "homes", "line", "one", "other"]
theorem sc_homes_by : FnScope sN_homes_by ["net", "lines"] (defScope s_homes_by) := ⟨rfl, rfl, rfl, by decide +kernel, rfl, by decide +kernel, by decide +kernel⟩
abbrev s_steps_from : Stmt := topS 16
abbrev sN_steps_from : List Str := ["net", "lines", "place", "found", "line", "one", "other"]
theorem sc_steps_from : FnScope sN_steps_from ["net", "lines", "place"] (defScope s_steps_from) := ⟨rfl, rfl, rfl, by decide +kernel, rfl, by decide +kernel, by decide +kernel⟩
abbrev s__law_mixed : Stmt := topS 35
abbrev sN__law_mixed : List Str := ["crock", "things", "left", "told"]
theorem sc__law_mixed : FnScope sN__law_mixed ["crock", "things"] (defScope s__law_mixed) := ⟨rfl, rfl, rfl, by decide +kernel, rfl, by decide +kernel, by decide +kernel⟩
abbrev s__law_words : Stmt := topS 37
abbrev sN__law_words : List Str := ["crock", "many", "first", "told", "at", "name"]
theorem sc__law_words : FnScope sN__law_words ["crock", "many", "first"] (defScope s__law_words) := ⟨rfl, rfl, rfl, by decide +kernel, rfl, by decide +kernel, by decide +kernel⟩
abbrev s__law_exchanges : Stmt := topS 40
abbrev sN__law_exchanges : List Str := ["net", "tree", "told", "line", "other"]
theorem sc__law_exchanges : FnScope sN__law_exchanges ["net", "tree"] (defScope s__law_exchanges) := ⟨rfl, rfl, rfl, by decide +kernel, rfl, by decide +kernel, by decide +kernel⟩
abbrev s__law_are_pairs : Stmt := topS 44
abbrev sN__law_are_pairs : List Str := ["thing", "one"]
theorem sc__law_are_pairs : FnScope sN__law_are_pairs ["thing"] (defScope s__law_are_pairs) := ⟨rfl, rfl, rfl, by decide +kernel, rfl, by decide +kernel, by decide +kernel⟩
abbrev s_hangs_together : Stmt := topS 12
abbrev sN_hangs_together : List Str := ["net", "lines"]
theorem sc_hangs_together : FnScope sN_hangs_together ["net", "lines"] (defScope s_hangs_together) := ⟨rfl, rfl, rfl, by decide +kernel, rfl, by decide +kernel, by decide +kernel⟩
abbrev s_way_along : Stmt := topS 17
abbrev sN_way_along : List Str := ["net", "lines", "one", "other", "came", "line", "at", "here", "step", "place", "way"]
theorem sc_way_along : FnScope sN_way_along ["net", "lines", "one", "other"] (defScope s_way_along) := ⟨rfl, rfl, rfl, by decide +kernel, rfl, by decide +kernel, by decide +kernel⟩
abbrev s__law_net : Stmt := topS 38
abbrev sN__law_net : List Str := ["crock", "places", "more", "ends", "habit", "at", "turn", "one", "other", "names", "rows"]
theorem sc__law_net : FnScope sN__law_net ["crock", "places", "more"] (defScope s__law_net) := ⟨rfl, rfl, rfl, by decide +kernel, rfl, by decide +kernel, by decide +kernel⟩
abbrev s__law_grown : Stmt := topS 42
abbrev sN__law_grown : List Str := ["crock", "net", "wished", "lines", "told", "tree", "line", "one", "other", "at"]
theorem sc__law_grown : FnScope sN__law_grown ["crock", "net", "wished"] (defScope s__law_grown) := ⟨rfl, rfl, rfl, by decide +kernel, rfl, by decide +kernel, by decide +kernel⟩
abbrev s__law_leads : Stmt := topS 45
abbrev sN__law_leads : List Str := ["net", "one", "other", "thing", "tree", "pair", "line"]
theorem sc__law_leads : FnScope sN__law_leads ["net", "one", "other", "thing"] (defScope s__law_leads) := ⟨rfl, rfl, rfl, by decide +kernel, rfl, by decide +kernel, by decide +kernel⟩
abbrev s__law_row : Stmt := topS 46
abbrev sN__law_row : List Str := ["crock", "net", "one", "other", "told", "tree", "line", "away", "pair", "at"]
theorem sc__law_row : FnScope sN__law_row ["crock", "net", "one", "other"] (defScope s__law_row) := ⟨rfl, rfl, rfl, by decide +kernel, rfl, by decide +kernel, by decide +kernel⟩
abbrev s__law_bent : Stmt := topS 47
abbrev sN__law_bent : List Str := ["crock", "net", "one", "row", "things", "pairs", "spot", "pair", "line", "away", "other", "rows"]
theorem sc__law_bent : FnScope sN__law_bent ["crock", "net", "one", "row"] (defScope s__law_bent) := ⟨rfl, rfl, rfl, by decide +kernel, rfl, by decide +kernel, by decide +kernel⟩
abbrev s_need_together : Stmt := topS 14
abbrev sN_need_together : List Str := ["net"]
theorem sc_need_together : FnScope sN_need_together ["net"] (defScope s_need_together) := ⟨rfl, rfl, rfl, by decide +kernel, rfl, by decide +kernel, by decide +kernel⟩
abbrev s_ring_of : Stmt := topS 19
abbrev sN_ring_of : List Str := ["net", "tree", "line", "one", "other"]
theorem sc_ring_of : FnScope sN_ring_of ["net", "tree", "line"] (defScope s_ring_of) := ⟨rfl, rfl, rfl, by decide +kernel, rfl, by decide +kernel, by decide +kernel⟩
abbrev s_exchanges_by : Stmt := topS 21
abbrev sN_exchanges_by : List Str := ["net", "tree", "found", "line", "other"]
theorem sc_exchanges_by : FnScope sN_exchanges_by ["net", "tree"] (defScope s_exchanges_by) := ⟨rfl, rfl, rfl, by decide +kernel, rfl, by decide +kernel, by decide +kernel⟩
abbrev s_exchanges_of : Stmt := topS 22
abbrev sN_exchanges_of : List Str := ["net", "tree"]
theorem sc_exchanges_of : FnScope sN_exchanges_of ["net", "tree"] (defScope s_exchanges_of) := ⟨rfl, rfl, rfl, by decide +kernel, rfl, by decide +kernel, by decide +kernel⟩
abbrev s_is_exchange : Stmt := topS 24
abbrev sN_is_exchange : List Str := ["net", "tree", "thing"]
theorem sc_is_exchange : FnScope sN_is_exchange ["net", "tree", "thing"] (defScope s_is_exchange) := ⟨rfl, rfl, rfl, by decide +kernel, rfl, by decide +kernel, by decide +kernel⟩
abbrev s_nearer_exchange : Stmt := topS 27
abbrev sN_nearer_exchange : List Str := ["net", "tree", "other", "part"]
theorem sc_nearer_exchange : FnScope sN_nearer_exchange ["net", "tree", "other"] (defScope s_nearer_exchange) := ⟨rfl, rfl, rfl, by decide +kernel, rfl, by decide +kernel, by decide +kernel⟩
abbrev s_step_row : Stmt := topS 28
abbrev sN_step_row : List Str := ["net", "one", "other", "row", "tree"]
theorem sc_step_row : FnScope sN_step_row ["net", "one", "other"] (defScope s_step_row) := ⟨rfl, rfl, rfl, by decide +kernel, rfl, by decide +kernel, by decide +kernel⟩
abbrev s_is_step_row : Stmt := topS 29
abbrev sN_is_step_row : List Str := ["net", "one", "other", "thing", "tree", "part"]
theorem sc_is_step_row : FnScope sN_is_step_row ["net", "one", "other", "thing"] (defScope s_is_step_row) := ⟨rfl, rfl, rfl, by decide +kernel, rfl, by decide +kernel, by decide +kernel⟩
abbrev s_even_exchange : Stmt := topS 31
abbrev sN_even_exchange : List Str := ["net", "one", "other", "line", "here", "there", "mate"]
theorem sc_even_exchange : FnScope sN_even_exchange ["net", "one", "other", "line"] (defScope s_even_exchange) := ⟨rfl, rfl, rfl, by decide +kernel, rfl, by decide +kernel, by decide +kernel⟩
abbrev s__law_asked : Stmt := topS 48
abbrev sN__law_asked : List Str := ["crock", "net", "one", "other", "more", "own", "turn", "thing", "line", "due", "at"]
theorem sc__law_asked : FnScope sN__law_asked ["crock", "net", "one", "other"] (defScope s__law_asked) := ⟨rfl, rfl, rfl, by decide +kernel, rfl, by decide +kernel, by decide +kernel⟩
abbrev s__law_drawn : Stmt := topS 49
abbrev sN__law_drawn : List Str := ["crock", "places", "more", "net", "one", "other", "line"]
theorem sc__law_drawn : FnScope sN__law_drawn ["crock", "places", "more"] (defScope s__law_drawn) := ⟨rfl, rfl, rfl, by decide +kernel, rfl, by decide +kernel, by decide +kernel⟩
abbrev s__law_paths : Stmt := topS 50
abbrev sN__law_paths : List Str := ["crock", "rows", "one", "net", "row", "ways", "other", "at", "way"]
theorem sc__law_paths : FnScope sN__law_paths ["crock"] (defScope s__law_paths) := ⟨rfl, rfl, rfl, by decide +kernel, rfl, by decide +kernel, by decide +kernel⟩
abbrev s_law : Stmt := topS 51
abbrev sN_law : List Str := ["script", "crock", "turn", "net", "one", "other", "told"]
theorem sc_law : FnScope sN_law ["script"] (defScope s_law) := ⟨rfl, rfl, rfl, by decide +kernel, rfl, by decide +kernel, by decide +kernel⟩
def b_is_integer : AS := sRet (aAnd (aFn fnIsi (aCons (aVar 0) (aCons (aC (.raw (.ty "int"))) (aNil)))) (aUn fNot (aFn fnIsi (aCons (aVar 0) (aCons (aC (.raw (.ty "bool"))) (aNil))))))
def m_is_integer : FN := mDef false 1 b_is_integer
def b_tuple_of : AS := sRet (aAnd (aFn fnIsi (aCons (aVar 0) (aCons (aC (.raw (.ty "tuple"))) (aNil)))) (aOp fEq (aFn fnLen (aCons (aVar 0) (aNil))) (aVar 1)))
def m_tuple_of : FN := mDef false 2 b_tuple_of
def b_ends_of : AS := sRet (aSl (aOp fIx (aOp fIx (aVar 0) (aC (.int 1))) (aVar 1)) (aSoP (aC (.int 1))) (aNoP))
def m_ends_of : FN := mDef false 2 b_ends_of
def b_merged : AS := sSeq (sSet 3 (aOp fIx (aVar 0) (aVar 1))) (sSeq (sSet 4 (aOp fIx (aVar 0) (aVar 2))) (sSeq (sIf (aB (aOp fEq (aVar 3) (aVar 4))) (sRet (aC (.bl false))) (sNext)) (sSeq (sFor (aItS (aLstEn (aVar 0))) (gTup' 2 (gCons' (gN 5) (gCons' (gN 6) (gNil')))) (sIf (aB (aOp fEq (aVar 6) (aVar 4))) (sAsg (aVar 3) (gSubL (aVar 0) (aVar 5))) (sNext))) (sRet (aC (.bl true))))))
def m_merged : FN := mDef false 7 b_merged
def b_all_lines : AS := sRet (aTupRg1 (aFn fnLen (aCons (aOp fIx (aVar 0) (aC (.int 1))) (aNil))))
def m_all_lines : FN := mDef false 1 b_all_lines
def b_exchanged : AS := sSeq (sAsg (aVar 1) (gTup' 2 (gCons' (gN 2) (gCons' (gN 3) (gNil'))))) (sRet (aFn fnTuple (aCons (aFn fnSortLT (aCons (aOp fAdd (aLc (aItS (aVar 0)) [4] (gN 4) (aB (aOp fNe (aVar 4) (aVar 3))) (aVar 4)) (aLst (aCons (aVar 2) (aNil)))) (aNil))) (aNil))))
def m_exchanged : FN := mDef false 5 b_exchanged
def b_fewest_steps : AS := sRet (aFn fnLen (aCons (aLc (aItS (aVar 0)) [2] (gN 2) (aB (aOp fNin (aVar 2) (aVar 1))) (aVar 2)) (aNil)))
def m_fewest_steps : FN := mDef false 3 b_fewest_steps
def b__law_crock : AS := sSeq (sSet 1 (aLst (aNil))) (sSeq (sSet 2 (aC (.int 200009))) (sSeq (sFor (aItS (aSl (aVar 0) (aNoP) (aSoP (aC (.int 60))))) (gN 3) (sSeq (sSet 4 (aOp fMod (aFn fnAbs (aCons (aFn fnInt (aCons (aVar 3) (aNil))) (aNil))) (aOp fShl (aC (.int 1)) (aC (.int 2000))))) (sSeq (sSet 2 (aOp fMod (aFn fnInt (aCons (aOp fAdd (aOp fAdd (aOp fMul (aVar 2) (aC (.int 46301))) (aOp fMod (aVar 4) (aC (.int 2147479967)))) (aC (.int 139))) (aNil))) (aC (.int 4294966997)))) (sIf (aB (aOp fGe (aVar 4) (aOp fPow (aC (.int 10)) (aC (.int 18))))) (sExpr (aM isL mAppend (aVar 1) (aCons (aVar 4) (aNil)))) (sNext))))) (sRet (aLst (aCons (aVar 1) (aCons (aVar 2) (aCons (aC (.int 0)) (aNil))))))))
def m__law_crock : FN := mDef true 5 b__law_crock
def b__law_tip : AS := sSeq (sIf (aB (aOp fGt (aFn fnLen (aCons (aOp fIx (aVar 0) (aC (.int 0))) (aNil))) (aC (.int 0)))) (sSeq (sSet 2 (aFn fnInt (aCons (aM isL mPop (aOp fIx (aVar 0) (aC (.int 0))) aNil) (aNil)))) (sSeq (sIf (aB (aOp fGe (aVar 2) (aVar 1))) (sExpr (aM isL mAppend (aOp fIx (aVar 0) (aC (.int 0))) (aCons (aOp fFdiv (aVar 2) (aVar 1)) (aNil)))) (sNext)) (sRet (aOp fMod (aVar 2) (aVar 1))))) (sNext)) (sSeq (sAsg (aOp fAdd (aOp fIx (aVar 0) (aC (.int 2))) (aC (.int 1))) (gSubL (aVar 0) (aC (.int 2)))) (sSeq (sAsg (aOp fMod (aFn fnInt (aCons (aOp fAdd (aOp fAdd (aOp fMul (aOp fIx (aVar 0) (aC (.int 1))) (aC (.int 93001))) (aOp fMul (aOp fIx (aVar 0) (aC (.int 2))) (aC (.int 10007)))) (aC (.int 19))) (aNil))) (aC (.int 4294966997))) (gSubL (aVar 0) (aC (.int 1)))) (sRet (aOp fMod (aFn fnInt (aCons (aOp fFdiv (aOp fIx (aVar 0) (aC (.int 1))) (aC (.int 1249))) (aNil))) (aVar 1)))))
def m__law_tip : FN := mDef false 3 b__law_tip
noncomputable def b__law_same : AS := sSeq (sSet 2 (aLst (aCons (aTup (aCons (aVar 0) (aCons (aVar 1) (aNil)))) (aNil)))) (sSeq (sWhile (aB (aOp fGt (aFn fnLen (aCons (aVar 2) (aNil))) (aC (.int 0)))) (sSeq (sAsg (aM isL mPop (aVar 2) aNil) (gTup' 2 (gCons' (gN 3) (gCons' (gN 4) (gNil'))))) (sIf (aB (aOp fIsN (aVar 4) (aC .non))) (sIf (aB (aOp fNotN (aVar 3) (aC .non))) (sRet (aC (.bl false))) (sNext)) (sIf (aTr (aFn fnIsi (aCons (aVar 4) (aCons (aC (.raw (.ty "bool"))) (aNil))))) (sIf (tOr (tNot (aTr (aFn fnIsi (aCons (aVar 3) (aCons (aC (.raw (.ty "bool"))) (aNil)))))) (aB (aOp fNe (aVar 3) (aVar 4)))) (sRet (aC (.bl false))) (sNext)) (sIf (aTr (aFn fnIsi (aCons (aVar 4) (aCons (aC (.raw (.ty "int"))) (aNil))))) (sIf (tOr (tNot (aTr (aFn fnIsi (aCons (aVar 3) (aCons (aC (.raw (.ty "int"))) (aNil)))))) (tOr (aTr (aFn fnIsi (aCons (aVar 3) (aCons (aC (.raw (.ty "bool"))) (aNil))))) (aB (aOp fNe (aVar 3) (aVar 4))))) (sRet (aC (.bl false))) (sNext)) (sIf (aTr (aFn fnIsi (aCons (aVar 4) (aCons (aC (.raw (.ty "str"))) (aNil))))) (sIf (tOr (tNot (aTr (aFn fnIsi (aCons (aVar 3) (aCons (aC (.raw (.ty "str"))) (aNil)))))) (aB (aOp fNe (aVar 3) (aVar 4)))) (sRet (aC (.bl false))) (sNext)) (sIf (tOr (aB (aOp fNe (aFn fnIsi (aCons (aVar 4) (aCons (aC (.raw (.ty "list"))) (aNil)))) (aFn fnIsi (aCons (aVar 3) (aCons (aC (.raw (.ty "list"))) (aNil)))))) (tOr (aB (aOp fNe (aFn fnIsi (aCons (aVar 4) (aCons (aC (.raw (.ty "tuple"))) (aNil)))) (aFn fnIsi (aCons (aVar 3) (aCons (aC (.raw (.ty "tuple"))) (aNil)))))) (aB (aOp fNe (aFn fnLen (aCons (aVar 3) (aNil))) (aFn fnLen (aCons (aVar 4) (aNil))))))) (sRet (aC (.bl false))) (sFor (aItR1 (aCons (aFn fnLen (aCons (aVar 4) (aNil))) (aNil))) (gN 5) (sExpr (aM isL mAppend (aVar 2) (aCons (aTup (aCons (aOp fIx (aVar 3) (aVar 5)) (aCons (aOp fIx (aVar 4) (aVar 5)) (aNil)))) (aNil)))))))))))) (sRet (aC (.bl true))))
noncomputable def m__law_same : FN := mDef false 6 b__law_same
noncomputable def b__law_way : AS := sSeq (sSet 4 (aDict1 (aVar 2) (aTup (aNil)))) (sSeq (sSet 5 (aLst (aCons (aVar 2) (aNil)))) (sSeq (sWhile (aB (aOp fGt (aFn fnLen (aCons (aVar 5) (aNil))) (aC (.int 0)))) (sSeq (sSet 6 (aM isL mPop (aVar 5) aNil)) (sFor (aItS (aVar 1)) (gN 7) (sSeq (sAsg (aCut (aSl (aOp fIx (aOp fIx (aVar 0) (aC (.int 1))) (aVar 7)) (aSoP (aC (.int 1))) (aNoP))) (gTup' 2 (gCons' (gN 8) (gCons' (gN 9) (gNil'))))) (sFor (aItS (aTup (aCons (aTup (aCons (aVar 8) (aCons (aVar 9) (aNil)))) (aCons (aTup (aCons (aVar 9) (aCons (aVar 8) (aNil)))) (aNil))))) (gTup' 2 (gCons' (gN 10) (gCons' (gN 11) (gNil')))) (sIf (tAnd (aB (aOp fEq (aVar 10) (aVar 6))) (aB (aOp fDnin (aVar 11) (aVar 4)))) (sSeq (sDput (aVar 4) (aVar 11) (aOp fAdd (aOp fDget (aVar 4) (aVar 6)) (aTup (aCons (aVar 7) (aNil))))) (sExpr (aM isL mAppend (aVar 5) (aCons (aVar 11) (aNil))))) (sNext))))))) (sRet (aOp fDget (aVar 4) (aVar 3)))))
noncomputable def m__law_way : FN := mDef false 12 b__law_way
def b__law_after : AS := sRet (aFn fnTuple (aCons (aFn fnSortLT (aCons (aOp fAdd (aLc (aItS (aVar 0)) [2] (gN 2) (aB (aOp fNe (aVar 2) (aOp fIx (aVar 1) (aC (.int 1))))) (aVar 2)) (aLst (aCons (aOp fIx (aVar 1) (aC (.int 0))) (aNil)))) (aNil))) (aNil)))
def m__law_after : FN := mDef false 3 b__law_after
def b__law_whole : AS := sRet (aAnd (aFn fnIsi (aCons (aVar 0) (aCons (aC (.raw (.ty "int"))) (aNil)))) (aUn fNot (aFn fnIsi (aCons (aVar 0) (aCons (aC (.raw (.ty "bool"))) (aNil))))))
def m__law_whole : FN := mDef false 1 b__law_whole
def b_are_integers : AS := sRet (aFn fnAll (aCons (aLc (aItS (aVar 0)) [1] (gN 1) (tYes') (aCall 1 m_is_integer (aCons (aVar 1) (aNil)))) (aNil)))
def m_are_integers : FN := mDef false 2 b_are_integers
def b_homes_by : AS := sSeq (sSet 2 (aLstRg1 (aFn fnLen (aCons (aOp fIx (aVar 0) (aC (.int 0))) (aNil))))) (sSeq (sFor (aItS (aVar 1)) (gN 3) (sSeq (sAsg (aCall 2 m_ends_of (aCons (aVar 0) (aCons (aVar 3) (aNil)))) (gTup' 2 (gCons' (gN 4) (gCons' (gN 5) (gNil'))))) (sExpr (aCall 3 m_merged (aCons (aVar 2) (aCons (aVar 4) (aCons (aVar 5) (aNil)))))))) (sRet (aVar 2)))
def m_homes_by : FN := mDef false 6 b_homes_by
def b_steps_from : AS := sSeq (sSet 3 (aLst (aNil))) (sSeq (sFor (aItS (aVar 1)) (gN 4) (sSeq (sAsg (aCall 2 m_ends_of (aCons (aVar 0) (aCons (aVar 4) (aNil)))) (gTup' 2 (gCons' (gN 5) (gCons' (gN 6) (gNil'))))) (sIf (aB (aOp fEq (aVar 5) (aVar 2))) (sExpr (aM isL mAppend (aVar 3) (aCons (aTup (aCons (aVar 4) (aCons (aVar 6) (aNil)))) (aNil)))) (sIf (aB (aOp fEq (aVar 6) (aVar 2))) (sExpr (aM isL mAppend (aVar 3) (aCons (aTup (aCons (aVar 4) (aCons (aVar 5) (aNil)))) (aNil)))) (sNext))))) (sRet (aVar 3)))
def m_steps_from : FN := mDef false 7 b_steps_from
noncomputable def b__law_mixed : AS := sSeq (sSet 2 (aFn fnList (aCons (aVar 1) (aNil)))) (sSeq (sSet 3 (aLst (aNil))) (sSeq (sWhile (aB (aOp fGt (aFn fnLen (aCons (aVar 2) (aNil))) (aC (.int 0)))) (sExpr (aM isL mAppend (aVar 3) (aCons (aM isL mPop (aVar 2) (aCons (aCall 2 m__law_tip (aCons (aVar 0) (aCons (aFn fnLen (aCons (aVar 2) (aNil))) (aNil)))) (aNil))) (aNil))))) (sRet (aVar 3))))
noncomputable def m__law_mixed : FN := mDef false 4 b__law_mixed
def b__law_words : AS := sSeq (sSet 3 (aLst (aNil))) (sSeq (sFor (aItR1 (aCons (aVar 1) (aNil))) (gN 4) (sSeq (sSet 5 (aOp fAdd (aVar 2) (aOp fIx (aTup (aCons (aC (.str "")) (aCons (aC (.str "a")) (aCons (aC (.str "0")) (aCons (aC (.str "zz9")) (aCons (aC (.str "longest")) (aNil))))))) (aCall 2 m__law_tip (aCons (aVar 0) (aCons (aC (.int 5)) (aNil))))))) (sExpr (aM isL mAppend (aVar 3) (aCons (aIf (aB (aOp fNin (aVar 5) (aVar 3))) (aVar 5) (aOp fAdd (aOp fAdd (aVar 2) (aC (.str "q"))) (aFn fnStr (aCons (aVar 4) (aNil))))) (aNil)))))) (sRet (aVar 3)))
def m__law_words : FN := mDef false 6 b__law_words
noncomputable def b__law_exchanges : AS := sSeq (sSet 2 (aCut (aLst (aNil)))) (sSeq (sFor (aItR1 (aCons (aFn fnLen (aCons (aOp fIx (aVar 0) (aC (.int 1))) (aNil))) (aNil))) (gN 3) (sIf (aB (aOp fNin (aVar 3) (aVar 1))) (sSet 2 (aCut (aOp fAdd (aVar 2) (aLc (aItS (aFn fnSortLT (aCons (aCall 4 m__law_way (aCons (aVar 0) (aCons (aVar 1) (aCons (aOp fIx (aOp fIx (aOp fIx (aVar 0) (aC (.int 1))) (aVar 3)) (aC (.int 1))) (aCons (aOp fIx (aOp fIx (aOp fIx (aVar 0) (aC (.int 1))) (aVar 3)) (aC (.int 2))) (aNil)))))) (aNil)))) [4] (gN 4) (tYes') (aTup (aCons (aVar 3) (aCons (aVar 4) (aNil)))))))) (sNext))) (sRet (aVar 2)))
noncomputable def m__law_exchanges : FN := mDef false 5 b__law_exchanges
def b__law_are_pairs : AS := sSeq (sIf (tNot (aTr (aFn fnIsi (aCons (aVar 0) (aCons (aC (.raw (.ty "tuple"))) (aNil)))))) (sRet (aC (.bl false))) (sNext)) (sRet (aOp fEq (aFn fnLen (aCons (aLc (aItS (aVar 0)) [1] (gN 1) (tOr (tNot (aTr (aFn fnIsi (aCons (aVar 1) (aCons (aC (.raw (.ty "tuple"))) (aNil)))))) (tOr (aB (aOp fNe (aFn fnLen (aCons (aVar 1) (aNil))) (aC (.int 2)))) (tOr (tNot (aTr (aCall 1 m__law_whole (aCons (aOp fIx (aVar 1) (aC (.int 0))) (aNil))))) (tNot (aTr (aCall 1 m__law_whole (aCons (aOp fIx (aVar 1) (aC (.int 1))) (aNil)))))))) (aVar 1)) (aNil))) (aC (.int 0))))
def m__law_are_pairs : FN := mDef false 2 b__law_are_pairs
def b_hangs_together : AS := sRet (aOp fEq (aLenSet (aCall 2 m_homes_by (aCons (aVar 0) (aCons (aVar 1) (aNil))))) (aC (.int 1)))
def m_hangs_together : FN := mDef false 2 b_hangs_together
noncomputable def b_way_along : AS := sSeq (sSet 4 (aDict1 (aVar 2) (aC .non))) (sSeq (sSet 5 (aLst (aCons (aVar 2) (aNil)))) (sSeq (sSet 6 (aC (.int 0))) (sSeq (sWhile (aB (aOp fLt (aVar 6) (aFn fnLen (aCons (aVar 5) (aNil))))) (sSeq (sSet 7 (aOp fIx (aVar 5) (aVar 6))) (sSeq (sAug 6 fIAdd (aC (.int 1))) (sFor (aItS (aCall 3 m_steps_from (aCons (aVar 0) (aCons (aVar 1) (aCons (aVar 7) (aNil)))))) (gTup' 2 (gCons' (gN 8) (gCons' (gN 9) (gNil')))) (sIf (aB (aOp fDnin (aVar 9) (aVar 4))) (sSeq (sDput (aVar 4) (aVar 9) (aTup (aCons (aVar 7) (aCons (aVar 8) (aNil))))) (sExpr (aM isL mAppend (aVar 5) (aCons (aVar 9) (aNil))))) (sNext)))))) (sSeq (sIf (aB (aOp fDnin (aVar 3) (aVar 4))) (sRet (aC .non)) (sNext)) (sSeq (sSet 10 (aLst (aNil))) (sSeq (sWhile (aB (aOp fNotN (aOp fDget (aVar 4) (aVar 3)) (aC .non))) (sSeq (sAsg (aOp fDget (aVar 4) (aVar 3)) (gTup' 2 (gCons' (gN 3) (gCons' (gN 8) (gNil'))))) (sExpr (aM isL mAppend (aVar 10) (aCons (aVar 8) (aNil)))))) (sRet (aFn fnTuple (aCons (aUn fRev (aVar 10)) (aNil))))))))))
noncomputable def m_way_along : FN := mDef false 11 b_way_along
noncomputable def b__law_net : AS := sSeq (sSet 3 (aLst (aNil))) (sSeq (sSet 4 (aCall 2 m__law_tip (aCons (aVar 0) (aCons (aC (.int 3)) (aNil))))) (sSeq (sFor (aItR2 (aCons (aC (.int 1)) (aCons (aVar 1) (aNil)))) (gN 5) (sExpr (aM isL mAppend (aVar 3) (aCons (aTup (aCons (aVar 5) (aCons (aOp fIx (aTup (aCons (aCall 2 m__law_tip (aCons (aVar 0) (aCons (aVar 5) (aNil)))) (aCons (aOp fSub (aVar 5) (aC (.int 1))) (aCons (aC (.int 0)) (aNil))))) (aVar 4)) (aNil)))) (aNil))))) (sSeq (sFor (aItR1 (aCons (aVar 2) (aNil))) (gN 6) (sSeq (sSet 7 (aCall 2 m__law_tip (aCons (aVar 0) (aCons (aVar 1) (aNil))))) (sSeq (sSet 8 (aOp fMod (aFn fnInt (aCons (aOp fAdd (aOp fAdd (aVar 7) (aC (.int 1))) (aCall 2 m__law_tip (aCons (aVar 0) (aCons (aOp fSub (aVar 1) (aC (.int 1))) (aNil))))) (aNil))) (aVar 1))) (sExpr (aM isL mAppend (aVar 3) (aCons (aIf (aB (aOp fGt (aCall 2 m__law_tip (aCons (aVar 0) (aCons (aC (.int 4)) (aNil)))) (aC (.int 0)))) (aTup (aCons (aVar 7) (aCons (aVar 8) (aNil)))) (aOp fIx (aVar 3) (aCall 2 m__law_tip (aCons (aVar 0) (aCons (aFn fnLen (aCons (aVar 3) (aNil))) (aNil)))))) (aNil))))))) (sSeq (sSet 9 (aCall 3 m__law_words (aCons (aVar 0) (aCons (aFn fnLen (aCons (aVar 3) (aNil))) (aCons (aC (.str "l")) (aNil)))))) (sSeq (sSet 10 (aCall 2 m__law_mixed (aCons (aVar 0) (aCons (aVar 3) (aNil))))) (sSeq (sSet 10 (aCut (aLc (aItS (aVar 10)) [7, 8] (gTup' 2 (gCons' (gN 7) (gCons' (gN 8) (gNil')))) (tYes') (aIf (aB (aOp fEq (aCall 2 m__law_tip (aCons (aVar 0) (aCons (aC (.int 2)) (aNil)))) (aC (.int 0)))) (aTup (aCons (aVar 7) (aCons (aVar 8) (aNil)))) (aTup (aCons (aVar 8) (aCons (aVar 7) (aNil)))))))) (sRet (aTup (aCons (aFn fnTuple (aCons (aCall 3 m__law_words (aCons (aVar 0) (aCons (aVar 1) (aCons (aC (.str "p")) (aNil))))) (aNil))) (aCons (aFn fnTuple (aCons (aLc (aItR1 (aCons (aFn fnLen (aCons (aVar 10) (aNil))) (aNil))) [5] (gN 5) (tYes') (aOp fAdd (aTup (aCons (aOp fIx (aVar 9) (aVar 5)) (aNil))) (aOp fIx (aVar 10) (aVar 5)))) (aNil))) (aNil)))))))))))
noncomputable def m__law_net : FN := mDef false 11 b__law_net
noncomputable def b__law_grown : AS := sSeq (sSet 3 (aCut (aOp fAdd (aFn fnList (aCons (aVar 2) (aNil))) (aLc (aItS (aCall 2 m__law_mixed (aCons (aVar 0) (aCons (aLstRg1 (aFn fnLen (aCons (aOp fIx (aVar 1) (aC (.int 1))) (aNil)))) (aNil))))) [6] (gN 6) (aB (aOp fNin (aVar 6) (aVar 2))) (aVar 6))))) (sSeq (sSet 4 (aCut (aLstRg1 (aFn fnLen (aCons (aOp fIx (aVar 1) (aC (.int 0))) (aNil)))))) (sSeq (sSet 5 (aLst (aNil))) (sSeq (sFor (aItS (aVar 3)) (gN 6) (sSeq (sAsg (aTup (aCons (aOp fIx (aVar 4) (aOp fIx (aOp fIx (aOp fIx (aVar 1) (aC (.int 1))) (aVar 6)) (aC (.int 1)))) (aCons (aOp fIx (aVar 4) (aOp fIx (aOp fIx (aOp fIx (aVar 1) (aC (.int 1))) (aVar 6)) (aC (.int 2)))) (aNil)))) (gTup' 2 (gCons' (gN 7) (gCons' (gN 8) (gNil'))))) (sIf (aB (aOp fNe (aVar 7) (aVar 8))) (sSeq (sExpr (aM isL mAppend (aVar 5) (aCons (aVar 6) (aNil)))) (sSet 4 (aCut (aLc (aItS (aVar 4)) [9] (gN 9) (tYes') (aIf (aB (aOp fIn (aVar 9) (aTup (aCons (aVar 7) (aCons (aVar 8) (aNil)))))) (aFn fnMin (aCons (aVar 7) (aCons (aVar 8) (aNil)))) (aVar 9)))))) (sNext)))) (sRet (aFn fnTuple (aCons (aFn fnSortLT (aCons (aVar 5) (aNil))) (aNil)))))))
noncomputable def m__law_grown : FN := mDef false 10 b__law_grown
noncomputable def b__law_leads : AS := sSeq (sIf (tCut (tOr (tNot (aTr (aCall 1 m__law_are_pairs (aCons (aVar 3) (aNil))))) (aB (aOp fNe (aFn fnLen (aCons (aVar 3) (aNil))) (aFn fnLen (aCons (aLc (aItS (aVar 1)) [6] (gN 6) (aB (aOp fNin (aVar 6) (aVar 2))) (aVar 6)) (aNil))))))) (sRet (aC (.bl false))) (sNext)) (sSeq (sSet 4 (aVar 1)) (sSeq (sFor (aItS (aVar 3)) (gN 5) (sSeq (sIf (aB (aOp fNinD (aVar 5) (aCall 2 m__law_exchanges (aCons (aVar 0) (aCons (aVar 4) (aNil)))))) (sRet (aC (.bl false))) (sNext)) (sSet 4 (aCall 2 m__law_after (aCons (aVar 4) (aCons (aVar 5) (aNil))))))) (sRet (aOp fEqD (aVar 4) (aVar 2)))))
noncomputable def m__law_leads : FN := mDef false 7 b__law_leads
noncomputable def b__law_row : AS := sSeq (sSet 4 (aLst (aNil))) (sSeq (sSet 5 (aVar 2)) (sSeq (sFor (aItS (aCall 2 m__law_mixed (aCons (aVar 0) (aCons (aLc (aItS (aVar 3)) [6] (gN 6) (aB (aOp fNin (aVar 6) (aVar 2))) (aVar 6)) (aNil))))) (gN 6) (sSeq (sSet 7 (aCut (aLc (aItS (aCall 4 m__law_way (aCons (aVar 1) (aCons (aVar 5) (aCons (aOp fIx (aOp fIx (aOp fIx (aVar 1) (aC (.int 1))) (aVar 6)) (aC (.int 1))) (aCons (aOp fIx (aOp fIx (aOp fIx (aVar 1) (aC (.int 1))) (aVar 6)) (aC (.int 2))) (aNil))))))) [9] (gN 9) (aB (aOp fNin (aVar 9) (aVar 3))) (aVar 9)))) (sSeq (sSet 8 (aTup (aCons (aVar 6) (aCons (aOp fIx (aVar 7) (aCall 2 m__law_tip (aCons (aVar 0) (aCons (aFn fnLen (aCons (aVar 7) (aNil))) (aNil))))) (aNil))))) (sSeq (sExpr (aM isL mAppend (aVar 4) (aCons (aVar 8) (aNil)))) (sSet 5 (aCall 2 m__law_after (aCons (aVar 5) (aCons (aVar 8) (aNil))))))))) (sRet (aFn fnTuple (aCons (aVar 4) (aNil))))))
noncomputable def m__law_row : FN := mDef false 10 b__law_row
noncomputable def b__law_bent : AS := sSeq (sSet 4 (aCut (aLst (aCons (aUn fRevT (aVar 3)) (aCons (aFn fnList (aCons (aVar 3) (aNil))) (aCons (aOp fAdd (aVar 3) (aSl (aVar 3) (aNoP) (aSoP (aC (.int 1))))) (aCons (aSl (aVar 3) (aNoP) (aSoP (aUn fNeg (aC (.int 1))))) (aCons (aSl (aVar 3) (aSoP (aC (.int 1))) (aNoP)) (aCons (aFn fnTuple (aCons (aLc (aItS (aVar 3)) [7] (gN 7) (tYes') (aCut (aFn fnList (aCons (aVar 7) (aNil))))) (aNil))) (aNil)))))))))) (sSeq (sSet 4 (aCut (aOp fAdd (aVar 4) (aLst (aCons (aFn fnTuple (aCons (aLc (aItS (aVar 3)) [7] (gN 7) (tYes') (aCut (aUn fRevT (aVar 7)))) (aNil))) (aCons (aC .non) (aCons (aTup (aCons (aVar 3) (aNil))) (aCons (aFn fnTuple (aCons (aLc (aItS (aVar 3)) [7] (gN 7) (tYes') (aTup (aCons (aOp fEq (aOp fIx (aVar 7) (aC (.int 0))) (aC (.int 1))) (aCons (aOp fIx (aVar 7) (aC (.int 1))) (aNil))))) (aNil))) (aNil))))))))) (sSeq (sSet 5 (aCall 2 m__law_exchanges (aCons (aVar 1) (aCons (aVar 2) (aNil))))) (sSeq (sIf (tAnd (aB (aOp fGt (aFn fnLen (aCons (aVar 3) (aNil))) (aC (.int 0)))) (aB (aOp fGt (aFn fnLen (aCons (aVar 5) (aNil))) (aC (.int 0))))) (sSeq (sSet 6 (aCall 2 m__law_tip (aCons (aVar 0) (aCons (aFn fnLen (aCons (aVar 3) (aNil))) (aNil))))) (sSeq (sSet 7 (aOp fIx (aVar 5) (aCall 2 m__law_tip (aCons (aVar 0) (aCons (aFn fnLen (aCons (aVar 5) (aNil))) (aNil)))))) (sSeq (sAsg (aOp fIx (aVar 3) (aVar 6)) (gTup' 2 (gCons' (gN 8) (gCons' (gN 9) (gNil'))))) (sSeq (sSet 4 (aCut (aOp fAdd (aVar 4) (aLst (aCons (aOp fAdd (aOp fAdd (aSl (aVar 3) (aNoP) (aSoP (aVar 6))) (aTup (aCons (aVar 7) (aNil)))) (aSl (aVar 3) (aSoP (aOp fAdd (aVar 6) (aC (.int 1)))) (aNoP))) (aCons (aOp fAdd (aOp fAdd (aSl (aVar 3) (aNoP) (aSoP (aVar 6))) (aTup (aCons (aTup (aCons (aVar 8) (aCons (aOp fIx (aVar 7) (aC (.int 1))) (aNil)))) (aNil)))) (aSl (aVar 3) (aSoP (aOp fAdd (aVar 6) (aC (.int 1)))) (aNoP))) (aCons (aOp fAdd (aTup (aCons (aVar 7) (aCons (aUn fRevT (aVar 7)) (aNil)))) (aVar 3)) (aCons (aOp fAdd (aOp fAdd (aSl (aVar 3) (aNoP) (aSoP (aVar 6))) (aTup (aCons (aTup (aCons (aVar 8) (aCons (aVar 9) (aCons (aC (.int 0)) (aNil))))) (aNil)))) (aSl (aVar 3) (aSoP (aOp fAdd (aVar 6) (aC (.int 1)))) (aNoP))) (aNil))))))))) (sSeq (sSet 10 (aCall 2 m__law_tip (aCons (aVar 0) (aCons (aFn fnLen (aCons (aVar 3) (aNil))) (aNil))))) (sSeq (sSet 11 (aFn fnList (aCons (aVar 3) (aNil)))) (sSeq (sAsg (aTup (aCons (aTup (aCons (aVar 8) (aCons (aOp fIx (aOp fIx (aVar 3) (aVar 10)) (aC (.int 1))) (aNil)))) (aCons (aTup (aCons (aOp fIx (aOp fIx (aVar 3) (aVar 10)) (aC (.int 0))) (aCons (aVar 9) (aNil)))) (aNil)))) (gTup' 2 (gCons' (gSubL (aVar 11) (aVar 6)) (gCons' (gSubL (aVar 11) (aVar 10)) (gNil'))))) (sSet 4 (aCut (aOp fAdd (aVar 4) (aOp fMul (aLst (aCons (aFn fnTuple (aCons (aVar 11) (aNil))) (aNil))) (aC (.int 2))))))))))))) (sNext)) (sRet (aOp fIx (aVar 4) (aCall 2 m__law_tip (aCons (aVar 0) (aCons (aFn fnLen (aCons (aVar 4) (aNil))) (aNil)))))))))
noncomputable def m__law_bent : FN := mDef false 12 b__law_bent
def b_need_together : AS := sIf (tNot (aTr (aCall 2 m_hangs_together (aCons (aVar 0) (aCons (aCall 1 m_all_lines (aCons (aVar 0) (aNil))) (aNil)))))) (sNever) (sNext)
def m_need_together : FN := mDef false 1 b_need_together
noncomputable def b_ring_of : AS := sSeq (sAsg (aCall 2 m_ends_of (aCons (aVar 0) (aCons (aVar 2) (aNil)))) (gTup' 2 (gCons' (gN 3) (gCons' (gN 4) (gNil'))))) (sRet (aFn fnTuple (aCons (aFn fnSortLT (aCons (aOp fAdd (aCall 4 m_way_along (aCons (aVar 0) (aCons (aVar 1) (aCons (aVar 3) (aCons (aVar 4) (aNil)))))) (aTup (aCons (aVar 2) (aNil)))) (aNil))) (aNil))))
noncomputable def m_ring_of : FN := mDef false 5 b_ring_of
noncomputable def b_exchanges_by : AS := sSeq (sSet 2 (aLst (aNil))) (sSeq (sFor (aItS (aCall 1 m_all_lines (aCons (aVar 0) (aNil)))) (gN 3) (sIf (aB (aOp fNin (aVar 3) (aVar 1))) (sExpr (aM isL mExtend (aVar 2) (aCons (aLc (aItS (aCall 3 m_ring_of (aCons (aVar 0) (aCons (aVar 1) (aCons (aVar 3) (aNil)))))) [4] (gN 4) (aB (aOp fNe (aVar 4) (aVar 3))) (aTup (aCons (aVar 3) (aCons (aVar 4) (aNil))))) (aNil)))) (sNext))) (sRet (aFn fnTuple (aCons (aVar 2) (aNil)))))
noncomputable def m_exchanges_by : FN := mDef false 5 b_exchanges_by
noncomputable def b_exchanges_of : AS := sSeq (sExpr (aCall 1 m_need_together (aCons (aVar 0) (aNil)))) (sRet (aCall 2 m_exchanges_by (aCons (aVar 0) (aCons (aVar 1) (aNil)))))
noncomputable def m_exchanges_of : FN := mDef false 2 b_exchanges_of
noncomputable def b_is_exchange : AS := sSeq (sExpr (aCall 1 m_need_together (aCons (aVar 0) (aNil)))) (sRet (aAnd (aCall 2 m_tuple_of (aCons (aVar 2) (aCons (aC (.int 2)) (aNil)))) (aAnd (aCall 1 m_are_integers (aCons (aVar 2) (aNil))) (aOp fInD (aVar 2) (aCall 2 m_exchanges_by (aCons (aVar 0) (aCons (aVar 1) (aNil))))))))
noncomputable def m_is_exchange : FN := mDef false 3 b_is_exchange
noncomputable def b_nearer_exchange : AS := sRet (aOp fIx (aLc (aItS (aCall 2 m_exchanges_by (aCons (aVar 0) (aCons (aVar 1) (aNil))))) [3] (gN 3) (tAnd (aB (aOp fIn (aOp fIx (aVar 3) (aC (.int 0))) (aVar 2))) (aB (aOp fNin (aOp fIx (aVar 3) (aC (.int 1))) (aVar 2)))) (aVar 3)) (aC (.int 0)))
noncomputable def m_nearer_exchange : FN := mDef false 4 b_nearer_exchange
noncomputable def b_step_row : AS := sSeq (sExpr (aCall 1 m_need_together (aCons (aVar 0) (aNil)))) (sSeq (sSet 3 (aLst (aNil))) (sSeq (sSet 4 (aVar 1)) (sSeq (sWhile (aB (aOp fNeD (aVar 4) (aVar 2))) (sSeq (sExpr (aM isL mAppend (aVar 3) (aCons (aCall 3 m_nearer_exchange (aCons (aVar 0) (aCons (aVar 4) (aCons (aVar 2) (aNil))))) (aNil)))) (sSet 4 (aCall 2 m_exchanged (aCons (aVar 4) (aCons (aOp fIx (aVar 3) (aUn fNeg (aC (.int 1)))) (aNil))))))) (sRet (aFn fnTuple (aCons (aVar 3) (aNil)))))))
noncomputable def m_step_row : FN := mDef false 5 b_step_row
noncomputable def b_is_step_row : AS := sSeq (sExpr (aCall 1 m_need_together (aCons (aVar 0) (aNil)))) (sSeq (sIf (tOr (tNot (aTr (aFn fnIsi (aCons (aVar 3) (aCons (aC (.raw (.ty "tuple"))) (aNil)))))) (aB (aOp fNe (aFn fnLen (aCons (aVar 3) (aNil))) (aCall 2 m_fewest_steps (aCons (aVar 1) (aCons (aVar 2) (aNil))))))) (sRet (aC (.bl false))) (sNext)) (sSeq (sSet 4 (aVar 1)) (sSeq (sFor (aItS (aVar 3)) (gN 5) (sSeq (sIf (tNot (aTr (aCall 3 m_is_exchange (aCons (aVar 0) (aCons (aVar 4) (aCons (aVar 5) (aNil))))))) (sRet (aC (.bl false))) (sNext)) (sSet 4 (aCall 2 m_exchanged (aCons (aVar 4) (aCons (aVar 5) (aNil))))))) (sRet (aOp fEqD (aVar 4) (aVar 2))))))
noncomputable def m_is_step_row : FN := mDef false 6 b_is_step_row
noncomputable def b_even_exchange : AS := sSeq (sSet 4 (aCall 2 m_exchanges_of (aCons (aVar 0) (aCons (aVar 1) (aNil))))) (sSeq (sSet 5 (aCall 2 m_exchanges_of (aCons (aVar 0) (aCons (aVar 2) (aNil))))) (sSeq (sFor (aItS (aVar 2)) (gN 6) (sIf (tAnd (aB (aOp fNin (aVar 6) (aVar 1))) (tAnd (aB (aOp fInD (aTup (aCons (aVar 6) (aCons (aVar 3) (aNil)))) (aVar 4))) (aB (aOp fInD (aTup (aCons (aVar 3) (aCons (aVar 6) (aNil)))) (aVar 5))))) (sRet (aVar 6)) (sNext))) (sRet (aC .non))))
noncomputable def m_even_exchange : FN := mDef false 7 b_even_exchange
noncomputable def b__law_asked : AS := sSeq (sSet 4 (aCut (aLc (aItS (aVar 2)) [8] (gN 8) (aB (aOp fNin (aVar 8) (aVar 3))) (aVar 8)))) (sSeq (sIf (tNot (aTr (aCall 2 m__law_same (aCons (aTup (aCons (aCall 2 m_fewest_steps (aCons (aVar 2) (aCons (aVar 3) (aNil)))) (aCons (aCallK 2 2 0 [1, 0] m_fewest_steps aNil (aCons (aVar 2) (aCons (aVar 3) (aNil)))) (aNil)))) (aCons (aTup (aCons (aFn fnLen (aCons (aVar 4) (aNil))) (aCons (aFn fnLen (aCons (aVar 4) (aNil))) (aNil)))) (aNil)))))) (sRet (aC (.bl false))) (sNext)) (sSeq (sIf (tNot (aTr (aCall 4 m__law_leads (aCons (aVar 1) (aCons (aVar 2) (aCons (aVar 3) (aCons (aCall 3 m_step_row (aCons (aVar 1) (aCons (aVar 2) (aCons (aVar 3) (aNil))))) (aNil)))))))) (sRet (aC (.bl false))) (sNext)) (sSeq (sSet 5 (aCall 4 m__law_row (aCons (aVar 0) (aCons (aVar 1) (aCons (aVar 2) (aCons (aVar 3) (aNil))))))) (sSeq (sIf (tNot (aTr (aCall 2 m__law_same (aCons (aCall 4 m_is_step_row (aCons (aVar 1) (aCons (aVar 2) (aCons (aVar 3) (aCons (aVar 5) (aNil)))))) (aCons (aC (.bl true)) (aNil)))))) (sRet (aC (.bl false))) (sNext)) (sSeq (sFor (aItR1 (aCons (aC (.int 6)) (aNil))) (gN 6) (sSeq (sSet 7 (aCall 4 m__law_bent (aCons (aVar 0) (aCons (aVar 1) (aCons (aVar 2) (aCons (aVar 5) (aNil))))))) (sIf (tNot (aTr (aCall 2 m__law_same (aCons (aCallK 4 4 0 [3, 2, 1, 0] m_is_step_row aNil (aCons (aVar 7) (aCons (aVar 3) (aCons (aVar 2) (aCons (aVar 1) (aNil)))))) (aCons (aCall 4 m__law_leads (aCons (aVar 1) (aCons (aVar 2) (aCons (aVar 3) (aCons (aVar 7) (aNil)))))) (aNil)))))) (sRet (aC (.bl false))) (sNext)))) (sSeq (sFor (aItS (aVar 4)) (gN 8) (sSeq (sSet 9 (aC .non)) (sSeq (sFor (aItS (aFn fnSortLT (aCons (aLc (aItS (aVar 3)) [10] (gN 10) (aB (aOp fNin (aVar 10) (aVar 2))) (aVar 10)) (aNil)))) (gN 10) (sIf (tAnd (aB (aOp fIsN (aVar 9) (aC .non))) (tAnd (aB (aOp fIn (aVar 8) (aCall 4 m__law_way (aCons (aVar 1) (aCons (aVar 2) (aCons (aOp fIx (aOp fIx (aOp fIx (aVar 1) (aC (.int 1))) (aVar 10)) (aC (.int 1))) (aCons (aOp fIx (aOp fIx (aOp fIx (aVar 1) (aC (.int 1))) (aVar 10)) (aC (.int 2))) (aNil)))))))) (aB (aOp fIn (aVar 10) (aCall 4 m__law_way (aCons (aVar 1) (aCons (aVar 3) (aCons (aOp fIx (aOp fIx (aOp fIx (aVar 1) (aC (.int 1))) (aVar 8)) (aC (.int 1))) (aCons (aOp fIx (aOp fIx (aOp fIx (aVar 1) (aC (.int 1))) (aVar 8)) (aC (.int 2))) (aNil)))))))))) (sSet 9 (aVar 10)) (sNext))) (sIf (tOr (aB (aOp fIsN (aVar 9) (aC .non))) (tNot (aTr (aCall 2 m__law_same (aCons (aCall 4 m_even_exchange (aCons (aVar 1) (aCons (aVar 2) (aCons (aVar 3) (aCons (aVar 8) (aNil)))))) (aCons (aVar 9) (aNil))))))) (sRet (aC (.bl false))) (sNext))))) (sRet (aC (.bl true)))))))))
noncomputable def m__law_asked : FN := mDef false 11 b__law_asked
noncomputable def b__law_drawn : AS := sSeq (sSet 3 (aCall 3 m__law_net (aCons (aVar 0) (aCons (aVar 1) (aCons (aVar 2) (aNil)))))) (sSeq (sSet 4 (aCut (aCall 3 m__law_grown (aCons (aVar 0) (aCons (aVar 3) (aCons (aLst (aNil)) (aNil))))))) (sSeq (sSet 5 (aCut (aIf (aB (aOp fGt (aCall 2 m__law_tip (aCons (aVar 0) (aCons (aC (.int 3)) (aNil)))) (aC (.int 0)))) (aCall 3 m__law_grown (aCons (aVar 0) (aCons (aVar 3) (aCons (aCall 2 m__law_mixed (aCons (aVar 0) (aCons (aLc (aItR1 (aCons (aFn fnLen (aCons (aOp fIx (aVar 3) (aC (.int 1))) (aNil))) (aNil))) [6] (gN 6) (aB (aOp fNin (aVar 6) (aVar 4))) (aVar 6)) (aNil)))) (aNil))))) (aCall 3 m__law_grown (aCons (aVar 0) (aCons (aVar 3) (aCons (aSl (aVar 4) (aSoP (aC (.int 1))) (aNoP)) (aNil)))))))) (sRet (aCall 4 m__law_asked (aCons (aVar 0) (aCons (aVar 3) (aCons (aVar 4) (aCons (aVar 5) (aNil)))))))))
noncomputable def m__law_drawn : FN := mDef false 7 b__law_drawn
noncomputable def b__law_paths : AS := sSeq (sSet 1 (aCut (aLst (aNil)))) (sSeq (sFor (aItR1 (aCons (aC (.int 5)) (aNil))) (gN 2) (sSet 1 (aCut (aOp fAdd (aVar 1) (aLc (aItR2 (aCons (aOp fAdd (aVar 2) (aC (.int 1))) (aCons (aC (.int 5)) (aNil)))) [6] (gN 6) (tYes') (aTup (aCons (aVar 2) (aCons (aVar 6) (aNil))))))))) (sSeq (sSet 1 (aCall 2 m__law_mixed (aCons (aVar 0) (aCons (aVar 1) (aNil))))) (sSeq (sSet 3 (aCut (aTup (aCons (aTup (aCons (aC (.str "a")) (aCons (aC (.str "b")) (aCons (aC (.str "c")) (aCons (aC (.str "d")) (aCons (aC (.str "e")) (aNil))))))) (aCons (aFn fnTuple (aCons (aLc (aItR1 (aCons (aC (.int 10)) (aNil))) [7] (gN 7) (tYes') (aOp fAdd (aTup (aCons (aOp fAdd (aC (.str "l")) (aFn fnStr (aCons (aVar 7) (aNil)))) (aNil))) (aOp fIx (aVar 1) (aVar 7)))) (aNil))) (aNil)))))) (sSeq (sSet 4 (aCut (aCall 2 m__law_mixed (aCons (aVar 0) (aCons (aLstRg1 (aC (.int 5))) (aNil)))))) (sSeq (sSet 5 (aCut (aTup (aCons (aVar 4) (aCons (aStT (aTup (aCons (aOp fIx (aVar 4) (aC (.int 3))) (aCons (aOp fIx (aVar 4) (aC (.int 1))) (aCons (aOp fIx (aVar 4) (aC (.int 4))) (aCons (aOp fIx (aVar 4) (aC (.int 2))) (aCons (aOp fIx (aVar 4) (aC (.int 0))) (aNil))))))) (aOp fIx (aTup (aCons (aC (.int 1)) (aCons (aOp fSub (aC (.int 0)) (aC (.int 1))) (aNil)))) (aCall 2 m__law_tip (aCons (aVar 0) (aCons (aC (.int 2)) (aNil)))))) (aNil)))))) (sSeq (sAsg (aCut (aLc (aItS (aVar 5)) [8] (gN 8) (tYes') (aCut (aFn fnTuple (aCons (aFn fnSortLT (aCons (aLc (aItR1 (aCons (aC (.int 4)) (aNil))) [7] (gN 7) (tYes') (aM isL mIndexD (aVar 1) (aCons (aTup (aCons (aFn fnMin (aCons (aOp fIx (aVar 8) (aVar 7)) (aCons (aOp fIx (aVar 8) (aOp fAdd (aVar 7) (aC (.int 1)))) (aNil)))) (aCons (aFn fnMax (aCons (aOp fIx (aVar 8) (aVar 7)) (aCons (aOp fIx (aVar 8) (aOp fAdd (aVar 7) (aC (.int 1)))) (aNil)))) (aNil)))) (aNil)))) (aNil))) (aNil)))))) (gTupL 2 (gCons' (gN 2) (gCons' (gN 6) (gNil'))))) (sRet (aAnd (aCall 4 m__law_asked (aCons (aVar 0) (aCons (aVar 3) (aCons (aVar 2) (aCons (aVar 6) (aNil)))))) (aCall 4 m__law_asked (aCons (aVar 0) (aCons (aVar 3) (aCons (aVar 6) (aCons (aVar 2) (aNil))))))))))))))
noncomputable def m__law_paths : FN := mDef false 9 b__law_paths
noncomputable def b_law : AS := sSeq (sSet 1 (aCall 1 m__law_crock (aCons (aVar 0) (aNil)))) (sSeq (sIf (tNot (aTr (aCall 1 m__law_paths (aCons (aVar 1) (aNil))))) (sRet (aC (.bl false))) (sNext)) (sSeq (sFor (aItR1 (aCons (aC (.int 4)) (aNil))) (gN 2) (sIf (tNot (aTr (aCall 3 m__law_drawn (aCons (aVar 1) (aCons (aOp fAdd (aC (.int 2)) (aCall 2 m__law_tip (aCons (aVar 1) (aCons (aC (.int 5)) (aNil))))) (aCons (aOp fAdd (aC (.int 1)) (aCall 2 m__law_tip (aCons (aVar 1) (aCons (aC (.int 4)) (aNil))))) (aNil))))))) (sRet (aC (.bl false))) (sNext))) (sSeq (sSet 3 (aTup (aCons (aTup (aCons (aC (.str "a")) (aCons (aC (.str "b")) (aCons (aC (.str "c")) (aCons (aC (.str "d")) (aNil)))))) (aCons (aTup (aCons (aTup (aCons (aC (.str "e")) (aCons (aC (.int 0)) (aCons (aC (.int 1)) (aNil))))) (aCons (aTup (aCons (aC (.str "f")) (aCons (aC (.int 1)) (aCons (aC (.int 2)) (aNil))))) (aCons (aTup (aCons (aC (.str "g")) (aCons (aC (.int 2)) (aCons (aC (.int 3)) (aNil))))) (aCons (aTup (aCons (aC (.str "h")) (aCons (aC (.int 0)) (aCons (aC (.int 3)) (aNil))))) (aCons (aTup (aCons (aC (.str "i")) (aCons (aC (.int 0)) (aCons (aC (.int 2)) (aNil))))) (aNil))))))) (aNil))))) (sSeq (sAsg (aTup (aCons (aTup (aCons (aC (.int 0)) (aCons (aC (.int 1)) (aCons (aC (.int 2)) (aNil))))) (aCons (aTup (aCons (aC (.int 0)) (aCons (aC (.int 3)) (aCons (aC (.int 4)) (aNil))))) (aNil)))) (gTup' 2 (gCons' (gN 4) (gCons' (gN 5) (gNil'))))) (sSeq (sSet 6 (aTup (aCons (aCall 4 m_is_step_row (aCons (aVar 3) (aCons (aVar 4) (aCons (aVar 5) (aCons (aTup (aCons (aTup (aCons (aC (.int 3)) (aCons (aC (.int 2)) (aNil)))) (aCons (aTup (aCons (aC (.int 4)) (aCons (aC (.int 1)) (aNil)))) (aNil)))) (aNil)))))) (aCons (aCall 4 m_is_step_row (aCons (aVar 3) (aCons (aVar 4) (aCons (aVar 5) (aCons (aTup (aCons (aTup (aCons (aC (.int 4)) (aCons (aC (.int 1)) (aNil)))) (aCons (aTup (aCons (aC (.int 3)) (aCons (aC (.int 2)) (aNil)))) (aNil)))) (aNil)))))) (aNil))))) (sSeq (sSet 6 (aOp fAdd (aVar 6) (aTup (aCons (aCall 4 m_is_step_row (aCons (aVar 3) (aCons (aVar 4) (aCons (aVar 5) (aCons (aTup (aCons (aTup (aCons (aC (.int 4)) (aCons (aC (.int 2)) (aNil)))) (aCons (aTup (aCons (aC (.int 3)) (aCons (aC (.int 1)) (aNil)))) (aNil)))) (aNil)))))) (aCons (aCall 4 m_is_step_row (aCons (aVar 3) (aCons (aVar 4) (aCons (aVar 5) (aCons (aTup (aCons (aTup (aCons (aC (.int 3)) (aCons (aC (.int 1)) (aNil)))) (aCons (aTup (aCons (aC (.int 4)) (aCons (aC (.int 2)) (aNil)))) (aNil)))) (aNil)))))) (aCons (aCall 4 m_is_step_row (aCons (aVar 3) (aCons (aVar 4) (aCons (aVar 4) (aCons (aTup (aNil)) (aNil)))))) (aNil))))))) (sSeq (sIf (tNot (aTr (aCall 2 m__law_same (aCons (aVar 6) (aCons (aTup (aCons (aC (.bl true)) (aCons (aC (.bl true)) (aCons (aC (.bl false)) (aCons (aC (.bl true)) (aCons (aC (.bl true)) (aNil))))))) (aNil)))))) (sRet (aC (.bl false))) (sNext)) (sRet (aOr (aOp fNe (aCall 2 m__law_tip (aCons (aVar 1) (aCons (aC (.int 7)) (aNil)))) (aC (.int 4))) (aCall 3 m__law_drawn (aCons (aVar 1) (aCons (aC (.int 10)) (aCons (aC (.int 11)) (aNil))))))))))))))
noncomputable def m_law : FN := mDef false 7 b_law
/-- what the top has written -/
structure Txt (K : PySem.W.Frag) (mg : Str → Option Value) where
  f_is_integer : Addr
  d_is_integer : FuncData
  g_is_integer : mg "is_integer" = some (.ref f_is_integer)
  F_is_integer : Fun K "is_integer" "is_integer" s_is_integer f_is_integer d_is_integer
  b_is_integer : Binds K d_is_integer ["thing"] []
  f_tuple_of : Addr
  d_tuple_of : FuncData
  g_tuple_of : mg "tuple_of" = some (.ref f_tuple_of)
  F_tuple_of : Fun K "tuple_of" "tuple_of" s_tuple_of f_tuple_of d_tuple_of
  b_tuple_of : Binds K d_tuple_of ["thing", "many"] []
  f_ends_of : Addr
  d_ends_of : FuncData
  g_ends_of : mg "ends_of" = some (.ref f_ends_of)
  F_ends_of : Fun K "ends_of" "ends_of" s_ends_of f_ends_of d_ends_of
  b_ends_of : Binds K d_ends_of ["net", "line"] []
  f_merged : Addr
  d_merged : FuncData
  g_merged : mg "merged" = some (.ref f_merged)
  F_merged : Fun K "merged" "merged" s_merged f_merged d_merged
  b_merged : Binds K d_merged ["homes", "one", "other"] []
  f_all_lines : Addr
  d_all_lines : FuncData
  g_all_lines : mg "all_lines" = some (.ref f_all_lines)
  F_all_lines : Fun K "all_lines" "all_lines" s_all_lines f_all_lines d_all_lines
  b_all_lines : Binds K d_all_lines ["net"] []
  f_exchanged : Addr
  d_exchanged : FuncData
  g_exchanged : mg "exchanged" = some (.ref f_exchanged)
  F_exchanged : Fun K "exchanged" "exchanged" s_exchanged f_exchanged d_exchanged
  b_exchanged : Binds K d_exchanged ["tree", "exchange"] []
  f_fewest_steps : Addr
  d_fewest_steps : FuncData
  g_fewest_steps : mg "fewest_steps" = some (.ref f_fewest_steps)
  F_fewest_steps : Fun K "fewest_steps" "fewest_steps" s_fewest_steps f_fewest_steps d_fewest_steps
  b_fewest_steps : Binds K d_fewest_steps ["one", "other"] []
  f__law_crock : Addr
  d__law_crock : FuncData
  g__law_crock : mg "_law_crock" = some (.ref f__law_crock)
  F__law_crock : Fun K "_law_crock" "_law_crock" s__law_crock f__law_crock d__law_crock
  b__law_crock : Binds K d__law_crock ["script"] []
  f__law_tip : Addr
  d__law_tip : FuncData
  g__law_tip : mg "_law_tip" = some (.ref f__law_tip)
  F__law_tip : Fun K "_law_tip" "_law_tip" s__law_tip f__law_tip d__law_tip
  b__law_tip : Binds K d__law_tip ["crock", "many"] []
  f__law_same : Addr
  d__law_same : FuncData
  g__law_same : mg "_law_same" = some (.ref f__law_same)
  F__law_same : Fun K "_law_same" "_law_same" s__law_same f__law_same d__law_same
  b__law_same : Binds K d__law_same ["told", "due"] []
  f__law_way : Addr
  d__law_way : FuncData
  g__law_way : mg "_law_way" = some (.ref f__law_way)
  F__law_way : Fun K "_law_way" "_law_way" s__law_way f__law_way d__law_way
  b__law_way : Binds K d__law_way ["net", "tree", "one", "other"] []
  f__law_after : Addr
  d__law_after : FuncData
  g__law_after : mg "_law_after" = some (.ref f__law_after)
  F__law_after : Fun K "_law_after" "_law_after" s__law_after f__law_after d__law_after
  b__law_after : Binds K d__law_after ["state", "exchange"] []
  f__law_whole : Addr
  d__law_whole : FuncData
  g__law_whole : mg "_law_whole" = some (.ref f__law_whole)
  F__law_whole : Fun K "_law_whole" "_law_whole" s__law_whole f__law_whole d__law_whole
  b__law_whole : Binds K d__law_whole ["thing"] []
  f_are_integers : Addr
  d_are_integers : FuncData
  g_are_integers : mg "are_integers" = some (.ref f_are_integers)
  F_are_integers : Fun K "are_integers" "are_integers" s_are_integers f_are_integers d_are_integers
  b_are_integers : Binds K d_are_integers ["thing"] []
  f_homes_by : Addr
  d_homes_by : FuncData
  g_homes_by : mg "homes_by" = some (.ref f_homes_by)
  F_homes_by : Fun K "homes_by" "homes_by" s_homes_by f_homes_by d_homes_by
  b_homes_by : Binds K d_homes_by ["net", "lines"] []
  f_steps_from : Addr
  d_steps_from : FuncData
  g_steps_from : mg "steps_from" = some (.ref f_steps_from)
  F_steps_from : Fun K "steps_from" "steps_from" s_steps_from f_steps_from d_steps_from
  b_steps_from : Binds K d_steps_from ["net", "lines", "place"] []
  f__law_mixed : Addr
  d__law_mixed : FuncData
  g__law_mixed : mg "_law_mixed" = some (.ref f__law_mixed)
  F__law_mixed : Fun K "_law_mixed" "_law_mixed" s__law_mixed f__law_mixed d__law_mixed
  b__law_mixed : Binds K d__law_mixed ["crock", "things"] []
  f__law_words : Addr
  d__law_words : FuncData
  g__law_words : mg "_law_words" = some (.ref f__law_words)
  F__law_words : Fun K "_law_words" "_law_words" s__law_words f__law_words d__law_words
  b__law_words : Binds K d__law_words ["crock", "many", "first"] []
  f__law_exchanges : Addr
  d__law_exchanges : FuncData
  g__law_exchanges : mg "_law_exchanges" = some (.ref f__law_exchanges)
  F__law_exchanges : Fun K "_law_exchanges" "_law_exchanges" s__law_exchanges f__law_exchanges d__law_exchanges
  b__law_exchanges : Binds K d__law_exchanges ["net", "tree"] []
  f__law_are_pairs : Addr
  d__law_are_pairs : FuncData
  g__law_are_pairs : mg "_law_are_pairs" = some (.ref f__law_are_pairs)
  F__law_are_pairs : Fun K "_law_are_pairs" "_law_are_pairs" s__law_are_pairs f__law_are_pairs d__law_are_pairs
  b__law_are_pairs : Binds K d__law_are_pairs ["thing"] []
  f_hangs_together : Addr
  d_hangs_together : FuncData
  g_hangs_together : mg "hangs_together" = some (.ref f_hangs_together)
  F_hangs_together : Fun K "hangs_together" "hangs_together" s_hangs_together f_hangs_together d_hangs_together
  b_hangs_together : Binds K d_hangs_together ["net", "lines"] []
  f_way_along : Addr
  d_way_along : FuncData
  g_way_along : mg "way_along" = some (.ref f_way_along)
  F_way_along : Fun K "way_along" "way_along" s_way_along f_way_along d_way_along
  b_way_along : Binds K d_way_along ["net", "lines", "one", "other"] []
  f__law_net : Addr
  d__law_net : FuncData
  g__law_net : mg "_law_net" = some (.ref f__law_net)
  F__law_net : Fun K "_law_net" "_law_net" s__law_net f__law_net d__law_net
  b__law_net : Binds K d__law_net ["crock", "places", "more"] []
  f__law_grown : Addr
  d__law_grown : FuncData
  g__law_grown : mg "_law_grown" = some (.ref f__law_grown)
  F__law_grown : Fun K "_law_grown" "_law_grown" s__law_grown f__law_grown d__law_grown
  b__law_grown : Binds K d__law_grown ["crock", "net", "wished"] []
  f__law_leads : Addr
  d__law_leads : FuncData
  g__law_leads : mg "_law_leads" = some (.ref f__law_leads)
  F__law_leads : Fun K "_law_leads" "_law_leads" s__law_leads f__law_leads d__law_leads
  b__law_leads : Binds K d__law_leads ["net", "one", "other", "thing"] []
  f__law_row : Addr
  d__law_row : FuncData
  g__law_row : mg "_law_row" = some (.ref f__law_row)
  F__law_row : Fun K "_law_row" "_law_row" s__law_row f__law_row d__law_row
  b__law_row : Binds K d__law_row ["crock", "net", "one", "other"] []
  f__law_bent : Addr
  d__law_bent : FuncData
  g__law_bent : mg "_law_bent" = some (.ref f__law_bent)
  F__law_bent : Fun K "_law_bent" "_law_bent" s__law_bent f__law_bent d__law_bent
  b__law_bent : Binds K d__law_bent ["crock", "net", "one", "row"] []
  f_need_together : Addr
  d_need_together : FuncData
  g_need_together : mg "need_together" = some (.ref f_need_together)
  F_need_together : Fun K "need_together" "need_together" s_need_together f_need_together d_need_together
  b_need_together : Binds K d_need_together ["net"] []
  f_ring_of : Addr
  d_ring_of : FuncData
  g_ring_of : mg "ring_of" = some (.ref f_ring_of)
  F_ring_of : Fun K "ring_of" "ring_of" s_ring_of f_ring_of d_ring_of
  b_ring_of : Binds K d_ring_of ["net", "tree", "line"] []
  f_exchanges_by : Addr
  d_exchanges_by : FuncData
  g_exchanges_by : mg "exchanges_by" = some (.ref f_exchanges_by)
  F_exchanges_by : Fun K "exchanges_by" "exchanges_by" s_exchanges_by f_exchanges_by d_exchanges_by
  b_exchanges_by : Binds K d_exchanges_by ["net", "tree"] []
  f_exchanges_of : Addr
  d_exchanges_of : FuncData
  g_exchanges_of : mg "exchanges_of" = some (.ref f_exchanges_of)
  F_exchanges_of : Fun K "exchanges_of" "exchanges_of" s_exchanges_of f_exchanges_of d_exchanges_of
  b_exchanges_of : Binds K d_exchanges_of ["net", "tree"] []
  f_is_exchange : Addr
  d_is_exchange : FuncData
  g_is_exchange : mg "is_exchange" = some (.ref f_is_exchange)
  F_is_exchange : Fun K "is_exchange" "is_exchange" s_is_exchange f_is_exchange d_is_exchange
  b_is_exchange : Binds K d_is_exchange ["net", "tree", "thing"] []
  f_nearer_exchange : Addr
  d_nearer_exchange : FuncData
  g_nearer_exchange : mg "nearer_exchange" = some (.ref f_nearer_exchange)
  F_nearer_exchange : Fun K "nearer_exchange" "nearer_exchange" s_nearer_exchange f_nearer_exchange d_nearer_exchange
  b_nearer_exchange : Binds K d_nearer_exchange ["net", "tree", "other"] []
  f_step_row : Addr
  d_step_row : FuncData
  g_step_row : mg "step_row" = some (.ref f_step_row)
  F_step_row : Fun K "step_row" "step_row" s_step_row f_step_row d_step_row
  b_step_row : Binds K d_step_row ["net", "one", "other"] []
  f_is_step_row : Addr
  d_is_step_row : FuncData
  g_is_step_row : mg "is_step_row" = some (.ref f_is_step_row)
  F_is_step_row : Fun K "is_step_row" "is_step_row" s_is_step_row f_is_step_row d_is_step_row
  b_is_step_row : Binds K d_is_step_row ["net", "one", "other", "thing"] []
  f_even_exchange : Addr
  d_even_exchange : FuncData
  g_even_exchange : mg "even_exchange" = some (.ref f_even_exchange)
  F_even_exchange : Fun K "even_exchange" "even_exchange" s_even_exchange f_even_exchange d_even_exchange
  b_even_exchange : Binds K d_even_exchange ["net", "one", "other", "line"] []
  f__law_asked : Addr
  d__law_asked : FuncData
  g__law_asked : mg "_law_asked" = some (.ref f__law_asked)
  F__law_asked : Fun K "_law_asked" "_law_asked" s__law_asked f__law_asked d__law_asked
  b__law_asked : Binds K d__law_asked ["crock", "net", "one", "other"] []
  f__law_drawn : Addr
  d__law_drawn : FuncData
  g__law_drawn : mg "_law_drawn" = some (.ref f__law_drawn)
  F__law_drawn : Fun K "_law_drawn" "_law_drawn" s__law_drawn f__law_drawn d__law_drawn
  b__law_drawn : Binds K d__law_drawn ["crock", "places", "more"] []
  f__law_paths : Addr
  d__law_paths : FuncData
  g__law_paths : mg "_law_paths" = some (.ref f__law_paths)
  F__law_paths : Fun K "_law_paths" "_law_paths" s__law_paths f__law_paths d__law_paths
  b__law_paths : Binds K d__law_paths ["crock"] []
  f_law : Addr
  d_law : FuncData
  g_law : mg "law" = some (.ref f_law)
  F_law : Fun K "law" "law" s_law f_law d_law
  b_law : Binds K d_law ["script"] []
  n_abs : mg "abs" = none
  n_all : mg "all" = none
  n_bool : mg "bool" = none
  n_enumerate : mg "enumerate" = none
  n_int : mg "int" = none
  n_isinstance : mg "isinstance" = none
  n_len : mg "len" = none
  n_list : mg "list" = none
  n_max : mg "max" = none
  n_min : mg "min" = none
  n_range : mg "range" = none
  n_set : mg "set" = none
  n_sorted : mg "sorted" = none
  n_str : mg "str" = none
  n_tuple : mg "tuple" = none
theorem kb_fewest_steps_0_other_one {K : PySem.W.Frag} {mg : Str → Option Value} (T : Txt K mg) : KB K T.d_fewest_steps ["one", "other"] ["other", "one"] 0 [1, 0] := by
  obtain ⟨oc, od, kV, doc, pm, an, cdv, ct, osl, e, lk, hcd⟩ := T.F_fewest_steps.ex
  rw [e]
  exact ⟨fun s us ws _ h1 h2 => match us, ws, h1, h2 with | [], [_, _], _, _ => .of_eq rfl⟩
theorem kb_is_step_row_0_thing_other_one_net {K : PySem.W.Frag} {mg : Str → Option Value} (T : Txt K mg) : KB K T.d_is_step_row ["net", "one", "other", "thing"] ["thing", "other", "one", "net"] 0 [3, 2, 1, 0] := by
  obtain ⟨oc, od, kV, doc, pm, an, cdv, ct, osl, e, lk, hcd⟩ := T.F_is_step_row.ex
  rw [e]
  exact ⟨fun s us ws _ h1 h2 => match us, ws, h1, h2 with | [], [_, _, _, _], _, _ => .of_eq rfl⟩
section
variable {P : Program} {w : World} {K : PySem.W.Frag} {mg : Str → Option Value} {base : Heap} (T : Txt K mg)
theorem ok_is_integer : FnA P w K mg base 1 T.f_is_integer T.d_is_integer ["thing"] m_is_integer := by
  have sc := sc_is_integer
  refine fn_def (k := 0) false T.F_is_integer sc fun cdv A outer s H E hr tk hp => ?_
  exact (jss_one (js_ret (je_and (je_bi j_isi T.n_isinstance boot_isinstance (ja_cons (jv 0) (ja_cons (je_bty T.n_int boot_int) ja_nil))) (je_one (je_not (je_bi j_isi T.n_isinstance boot_isinstance (ja_cons (jv 0) (ja_cons (je_bty T.n_bool boot_bool) ja_nil))))))))
theorem ok_tuple_of : FnA P w K mg base 1 T.f_tuple_of T.d_tuple_of ["thing", "many"] m_tuple_of := by
  have sc := sc_tuple_of
  refine fn_def (k := 0) false T.F_tuple_of sc fun cdv A outer s H E hr tk hp => ?_
  exact (jss_one (js_ret (je_and (je_bi j_isi T.n_isinstance boot_isinstance (ja_cons (jv 0) (ja_cons (je_bty T.n_tuple boot_tuple) ja_nil))) (je_one (je_cmp j_eq (je_bi j_len T.n_len boot_len (ja_cons (jv 0) ja_nil)) (jv 1))))))
theorem ok_ends_of : FnA P w K mg base 1 T.f_ends_of T.d_ends_of ["net", "line"] m_ends_of := by
  have sc := sc_ends_of
  refine fn_def (k := 0) false T.F_ends_of sc fun cdv A outer s H E hr tk hp => ?_
  exact (jss_one (js_ret (je_sl (je_ix (je_ix (jv 0) je_int) (jv 1)) (jp_some je_int) jp_none)))
theorem ok_merged : FnA P w K mg base 1 T.f_merged T.d_merged ["homes", "one", "other"] m_merged := by
  have sc := sc_merged
  refine fn_def (k := 0) false T.F_merged sc fun cdv A outer s H E hr tk hp => ?_
  exact (jss_cons (js_set 3 sc.nd (je_ix (jv 0) (jv 1)))
      (jss_cons (js_set 4 sc.nd (je_ix (jv 0) (jv 2)))
      (jss_cons (js_if (jt_cmp j_eq (jv 3) (jv 4)) (jss_one (js_ret je_bl)) jss_nil)
      (jss_cons (js_for hp rfl (ji_seq (je_lstEn rfl T.n_list T.n_enumerate (jv 0))) (jg_tup rfl (jgs_cons (jg_name 5 sc.nd) (jgs_cons (jg_name 6 sc.nd) jgs_nil))) (jss_one (js_if (jt_cmp j_eq (jv 6) (jv 4)) (jss_one (js_asg (jv 3) (jg_subL (jv 0) (jv 5)))) jss_nil)))
      (jss_one (js_ret je_bl))))))
theorem ok_all_lines : FnA P w K mg base 1 T.f_all_lines T.d_all_lines ["net"] m_all_lines := by
  have sc := sc_all_lines
  refine fn_def (k := 0) false T.F_all_lines sc fun cdv A outer s H E hr tk hp => ?_
  exact (jss_one (js_ret (je_tupRg1 rfl T.n_tuple T.n_range (je_bi j_len T.n_len boot_len (ja_cons (je_ix (jv 0) je_int) ja_nil)))))
theorem ok_exchanged : FnA P w K mg base 1 T.f_exchanged T.d_exchanged ["tree", "exchange"] m_exchanged := by
  have sc := sc_exchanged
  refine fn_def (k := 0) false T.F_exchanged sc fun cdv A outer s H E hr tk hp => ?_
  exact (jss_cons (js_asg (jv 1) (jg_tup rfl (jgs_cons (jg_name 2 sc.nd) (jgs_cons (jg_name 3 sc.nd) jgs_nil))))
      (jss_one (js_ret (je_ty j_tuple T.n_tuple boot_tuple (ja_cons (je_bi j_sortLT T.n_sorted boot_sorted (ja_cons (je_op j_add (je_lc rfl sc.nd (own := [("line", 4)]) (ji_seq (jv 0)) (blkOk_by (N := sN_exchanged) (sc := defScope s_exchanged) (by decide +kernel)) (fun _ _ _ _ _ => (jgw_name 4 sc.nd)) (fun _ _ _ _ _ => by exact (jts_one (jt_cmp j_ne (jv 4) (jv 3)))) (fun _ _ _ _ _ => by exact (jv 4))) (je_lst (ja_cons (jv 2) ja_nil))) ja_nil)) ja_nil)))))
theorem ok_fewest_steps : FnA P w K mg base 1 T.f_fewest_steps T.d_fewest_steps ["one", "other"] m_fewest_steps := by
  have sc := sc_fewest_steps
  refine fn_def (k := 0) false T.F_fewest_steps sc fun cdv A outer s H E hr tk hp => ?_
  exact (jss_one (js_ret (je_bi j_len T.n_len boot_len (ja_cons (je_lc rfl sc.nd (own := [("line", 2)]) (ji_seq (jv 0)) (blkOk_by (N := sN_fewest_steps) (sc := defScope s_fewest_steps) (by decide +kernel)) (fun _ _ _ _ _ => (jgw_name 2 sc.nd)) (fun _ _ _ _ _ => by exact (jts_one (jt_cmp j_nin (jv 2) (jv 1)))) (fun _ _ _ _ _ => by exact (jv 2))) ja_nil))))
theorem ok__law_crock : FnA P w K mg base 1 T.f__law_crock T.d__law_crock ["script"] m__law_crock := by
  have sc := sc__law_crock
  refine fn_def (k := 0) true T.F__law_crock sc fun cdv A outer s H E hr tk hp => ?_
  exact (jss_cons (js_set 1 sc.nd (je_lst ja_nil))
      (jss_cons (js_set 2 sc.nd je_int)
      (jss_cons (js_for hp rfl (ji_seq (je_sl (jv 0) jp_none (jp_some je_int))) (jg_name 3 sc.nd) (jss_cons (js_set 4 sc.nd (je_op j_mod (je_bi j_abs T.n_abs boot_abs (ja_cons (je_ty j_int T.n_int boot_int (ja_cons (jv 3) ja_nil)) ja_nil)) (je_op j_shl je_int je_int)))
      (jss_cons (js_set 2 sc.nd (je_op j_mod (je_ty j_int T.n_int boot_int (ja_cons (je_op j_add (je_op j_add (je_op j_mul (jv 2) je_int) (je_op j_mod (jv 4) je_int)) je_int) ja_nil)) je_int))
      (jss_one (js_if (jt_cmp j_ge (jv 4) (je_op j_pow je_int je_int)) (jss_one (js_expr (je_m j_append tya_list (jv 1) (ja_cons (jv 4) ja_nil)))) jss_nil)))))
      (jss_one (js_ret (je_lst (ja_cons (jv 1) (ja_cons (jv 2) (ja_cons je_int ja_nil)))))))))
theorem ok__law_tip : FnA P w K mg base 1 T.f__law_tip T.d__law_tip ["crock", "many"] m__law_tip := by
  have sc := sc__law_tip
  refine fn_def (k := 0) false T.F__law_tip sc fun cdv A outer s H E hr tk hp => ?_
  exact (jss_cons (js_if (jt_cmp j_gt (je_bi j_len T.n_len boot_len (ja_cons (je_ix (jv 0) je_int) ja_nil)) je_int) (jss_cons (js_set 2 sc.nd (je_ty j_int T.n_int boot_int (ja_cons (je_m0 j_pop tya_list (je_ix (jv 0) je_int)) ja_nil)))
      (jss_cons (js_if (jt_cmp j_ge (jv 2) (jv 1)) (jss_one (js_expr (je_m j_append tya_list (je_ix (jv 0) je_int) (ja_cons (je_op j_fdiv (jv 2) (jv 1)) ja_nil)))) jss_nil)
      (jss_one (js_ret (je_op j_mod (jv 2) (jv 1)))))) jss_nil)
      (jss_cons (js_asg (je_op j_add (je_ix (jv 0) je_int) je_int) (jg_subL (jv 0) je_int))
      (jss_cons (js_asg (je_op j_mod (je_ty j_int T.n_int boot_int (ja_cons (je_op j_add (je_op j_add (je_op j_mul (je_ix (jv 0) je_int) je_int) (je_op j_mul (je_ix (jv 0) je_int) je_int)) je_int) ja_nil)) je_int) (jg_subL (jv 0) je_int))
      (jss_one (js_ret (je_op j_mod (je_ty j_int T.n_int boot_int (ja_cons (je_op j_fdiv (je_ix (jv 0) je_int) je_int) ja_nil)) (jv 1)))))))
theorem ok__law_same : FnA P w K mg base 1 T.f__law_same T.d__law_same ["told", "due"] m__law_same := by
  have sc := sc__law_same
  refine fn_def (k := 0) false T.F__law_same sc fun cdv A outer s H E hr tk hp => ?_
  exact (jss_cons (js_set 2 sc.nd (je_lst (ja_cons (je_tup (ja_cons (jv 0) (ja_cons (jv 1) ja_nil))) ja_nil)))
      (jss_cons (js_while hp (jt_cmp j_gt (je_bi j_len T.n_len boot_len (ja_cons (jv 2) ja_nil)) je_int) (jss_cons (js_asg (je_m0 j_pop tya_list (jv 2)) (jg_tup rfl (jgs_cons (jg_name 3 sc.nd) (jgs_cons (jg_name 4 sc.nd) jgs_nil))))
      (jss_one (js_if (jt_cmp j_isN (jv 4) je_non) (jss_one (js_if (jt_cmp j_notN (jv 3) je_non) (jss_one (js_ret je_bl)) jss_nil)) (jss_one (js_if (jt_truth (je_bi j_isi T.n_isinstance boot_isinstance (ja_cons (jv 4) (ja_cons (je_bty T.n_bool boot_bool) ja_nil)))) (jss_one (js_if (jt_bool (jw_or (jt_not (jt_truth (je_bi j_isi T.n_isinstance boot_isinstance (ja_cons (jv 3) (ja_cons (je_bty T.n_bool boot_bool) ja_nil))))) (jw_or1 (jt_cmp j_ne (jv 3) (jv 4))))) (jss_one (js_ret je_bl)) jss_nil)) (jss_one (js_if (jt_truth (je_bi j_isi T.n_isinstance boot_isinstance (ja_cons (jv 4) (ja_cons (je_bty T.n_int boot_int) ja_nil)))) (jss_one (js_if (jt_bool (jw_or (jt_not (jt_truth (je_bi j_isi T.n_isinstance boot_isinstance (ja_cons (jv 3) (ja_cons (je_bty T.n_int boot_int) ja_nil))))) (jw_or (jt_truth (je_bi j_isi T.n_isinstance boot_isinstance (ja_cons (jv 3) (ja_cons (je_bty T.n_bool boot_bool) ja_nil)))) (jw_or1 (jt_cmp j_ne (jv 3) (jv 4)))))) (jss_one (js_ret je_bl)) jss_nil)) (jss_one (js_if (jt_truth (je_bi j_isi T.n_isinstance boot_isinstance (ja_cons (jv 4) (ja_cons (je_bty T.n_str boot_str) ja_nil)))) (jss_one (js_if (jt_bool (jw_or (jt_not (jt_truth (je_bi j_isi T.n_isinstance boot_isinstance (ja_cons (jv 3) (ja_cons (je_bty T.n_str boot_str) ja_nil))))) (jw_or1 (jt_cmp j_ne (jv 3) (jv 4))))) (jss_one (js_ret je_bl)) jss_nil)) (jss_one (js_if (jt_bool (jw_or (jt_cmp j_ne (je_bi j_isi T.n_isinstance boot_isinstance (ja_cons (jv 4) (ja_cons (je_bty T.n_list boot_list) ja_nil))) (je_bi j_isi T.n_isinstance boot_isinstance (ja_cons (jv 3) (ja_cons (je_bty T.n_list boot_list) ja_nil)))) (jw_or (jt_cmp j_ne (je_bi j_isi T.n_isinstance boot_isinstance (ja_cons (jv 4) (ja_cons (je_bty T.n_tuple boot_tuple) ja_nil))) (je_bi j_isi T.n_isinstance boot_isinstance (ja_cons (jv 3) (ja_cons (je_bty T.n_tuple boot_tuple) ja_nil)))) (jw_or1 (jt_cmp j_ne (je_bi j_len T.n_len boot_len (ja_cons (jv 3) ja_nil)) (je_bi j_len T.n_len boot_len (ja_cons (jv 4) ja_nil))))))) (jss_one (js_ret je_bl)) (jss_one (js_for hp rfl (ji_rg1 T.n_range (ja_cons (je_bi j_len T.n_len boot_len (ja_cons (jv 4) ja_nil)) ja_nil)) (jg_name 5 sc.nd) (jss_one (js_expr (je_m j_append tya_list (jv 2) (ja_cons (je_tup (ja_cons (je_ix (jv 3) (jv 5)) (ja_cons (je_ix (jv 4) (jv 5)) ja_nil))) ja_nil))))))))))))))))))
      (jss_one (js_ret je_bl))))
theorem ok__law_way : FnA P w K mg base 1 T.f__law_way T.d__law_way ["net", "tree", "one", "other"] m__law_way := by
  have sc := sc__law_way
  refine fn_def (k := 0) false T.F__law_way sc fun cdv A outer s H E hr tk hp => ?_
  exact (jss_cons (js_set 4 sc.nd (je_dict1 (jv 2) (je_tup ja_nil)))
      (jss_cons (js_set 5 sc.nd (je_lst (ja_cons (jv 2) ja_nil)))
      (jss_cons (js_while hp (jt_cmp j_gt (je_bi j_len T.n_len boot_len (ja_cons (jv 5) ja_nil)) je_int) (jss_cons (js_set 6 sc.nd (je_m0 j_pop tya_list (jv 5)))
      (jss_one (js_for hp rfl (ji_seq (jv 1)) (jg_name 7 sc.nd) (jss_cons (js_asg (je_cut (je_sl (je_ix (je_ix (jv 0) je_int) (jv 7)) (jp_some je_int) jp_none)) (jg_tup rfl (jgs_cons (jg_name 8 sc.nd) (jgs_cons (jg_name 9 sc.nd) jgs_nil))))
      (jss_one (js_for hp rfl (ji_seq (je_tup (ja_cons (je_tup (ja_cons (jv 8) (ja_cons (jv 9) ja_nil))) (ja_cons (je_tup (ja_cons (jv 9) (ja_cons (jv 8) ja_nil))) ja_nil)))) (jg_tup rfl (jgs_cons (jg_name 10 sc.nd) (jgs_cons (jg_name 11 sc.nd) jgs_nil))) (jss_one (js_if (jt_bool (jw_and (jt_cmp j_eq (jv 10) (jv 6)) (jw_and1 (jt_dnin (hu_of hr) (jv 11) (jv 4))))) (jss_cons (js_dput (hu_of hr) (jv 4) (jv 11) (je_op j_add (je_dget (hu_of hr) (jv 4) (jv 6)) (je_tup (ja_cons (jv 7) ja_nil))))
      (jss_one (js_expr (je_m j_append tya_list (jv 5) (ja_cons (jv 11) ja_nil))))) jss_nil)))))))))
      (jss_one (js_ret (je_dget (hu_of hr) (jv 4) (jv 3)))))))
theorem ok__law_after : FnA P w K mg base 1 T.f__law_after T.d__law_after ["state", "exchange"] m__law_after := by
  have sc := sc__law_after
  refine fn_def (k := 0) false T.F__law_after sc fun cdv A outer s H E hr tk hp => ?_
  exact (jss_one (js_ret (je_ty j_tuple T.n_tuple boot_tuple (ja_cons (je_bi j_sortLT T.n_sorted boot_sorted (ja_cons (je_op j_add (je_lc rfl sc.nd (own := [("line", 2)]) (ji_seq (jv 0)) (blkOk_by (N := sN__law_after) (sc := defScope s__law_after) (by decide +kernel)) (fun _ _ _ _ _ => (jgw_name 2 sc.nd)) (fun _ _ _ _ _ => by exact (jts_one (jt_cmp j_ne (jv 2) (je_ix (jv 1) je_int)))) (fun _ _ _ _ _ => by exact (jv 2))) (je_lst (ja_cons (je_ix (jv 1) je_int) ja_nil))) ja_nil)) ja_nil))))
theorem ok__law_whole : FnA P w K mg base 1 T.f__law_whole T.d__law_whole ["thing"] m__law_whole := by
  have sc := sc__law_whole
  refine fn_def (k := 0) false T.F__law_whole sc fun cdv A outer s H E hr tk hp => ?_
  exact (jss_one (js_ret (je_and (je_bi j_isi T.n_isinstance boot_isinstance (ja_cons (jv 0) (ja_cons (je_bty T.n_int boot_int) ja_nil))) (je_one (je_not (je_bi j_isi T.n_isinstance boot_isinstance (ja_cons (jv 0) (ja_cons (je_bty T.n_bool boot_bool) ja_nil))))))))
theorem ok_are_integers : FnA P w K mg base 2 T.f_are_integers T.d_are_integers ["thing"] m_are_integers := by
  have sc := sc_are_integers
  refine fn_def (k := 1) false T.F_are_integers sc fun cdv A outer s H E hr tk hp => ?_
  exact (jss_one (js_ret (je_bi (j_all rfl) T.n_all boot_all (ja_cons (je_lc rfl sc.nd (own := [("part", 1)]) (ji_seq (jv 0)) (blkOk_by (N := sN_are_integers) (sc := defScope s_are_integers) (by decide +kernel)) (fun _ _ _ _ _ => (jgw_name 1 sc.nd)) (fun _ _ _ _ _ => by exact jts_nil) (fun _ _ _ _ _ => by exact (by exact (je_call (ok_is_integer T) hr T.g_is_integer T.F_is_integer.kp T.b_is_integer takes0 (ja_cons (jv 1) ja_nil))))) ja_nil))))
theorem ok_homes_by : FnA P w K mg base 2 T.f_homes_by T.d_homes_by ["net", "lines"] m_homes_by := by
  have sc := sc_homes_by
  refine fn_def (k := 1) false T.F_homes_by sc fun cdv A outer s H E hr tk hp => ?_
  exact (jss_cons (js_set 2 sc.nd (je_lstRg1 rfl T.n_list T.n_range (je_bi j_len T.n_len boot_len (ja_cons (je_ix (jv 0) je_int) ja_nil))))
      (jss_cons (js_for hp rfl (ji_seq (jv 1)) (jg_name 3 sc.nd) (jss_cons (js_asg (je_call (ok_ends_of T) hr T.g_ends_of T.F_ends_of.kp T.b_ends_of tk (ja_cons (jv 0) (ja_cons (jv 3) ja_nil))) (jg_tup rfl (jgs_cons (jg_name 4 sc.nd) (jgs_cons (jg_name 5 sc.nd) jgs_nil))))
      (jss_one (js_expr (je_call (ok_merged T) hr T.g_merged T.F_merged.kp T.b_merged tk (ja_cons (jv 2) (ja_cons (jv 4) (ja_cons (jv 5) ja_nil))))))))
      (jss_one (js_ret (jv 2)))))
theorem ok_steps_from : FnA P w K mg base 2 T.f_steps_from T.d_steps_from ["net", "lines", "place"] m_steps_from := by
  have sc := sc_steps_from
  refine fn_def (k := 1) false T.F_steps_from sc fun cdv A outer s H E hr tk hp => ?_
  exact (jss_cons (js_set 3 sc.nd (je_lst ja_nil))
      (jss_cons (js_for hp rfl (ji_seq (jv 1)) (jg_name 4 sc.nd) (jss_cons (js_asg (je_call (ok_ends_of T) hr T.g_ends_of T.F_ends_of.kp T.b_ends_of tk (ja_cons (jv 0) (ja_cons (jv 4) ja_nil))) (jg_tup rfl (jgs_cons (jg_name 5 sc.nd) (jgs_cons (jg_name 6 sc.nd) jgs_nil))))
      (jss_one (js_if (jt_cmp j_eq (jv 5) (jv 2)) (jss_one (js_expr (je_m j_append tya_list (jv 3) (ja_cons (je_tup (ja_cons (jv 4) (ja_cons (jv 6) ja_nil))) ja_nil)))) (jss_one (js_if (jt_cmp j_eq (jv 6) (jv 2)) (jss_one (js_expr (je_m j_append tya_list (jv 3) (ja_cons (je_tup (ja_cons (jv 4) (ja_cons (jv 5) ja_nil))) ja_nil)))) jss_nil))))))
      (jss_one (js_ret (jv 3)))))
theorem ok__law_mixed : FnA P w K mg base 2 T.f__law_mixed T.d__law_mixed ["crock", "things"] m__law_mixed := by
  have sc := sc__law_mixed
  refine fn_def (k := 1) false T.F__law_mixed sc fun cdv A outer s H E hr tk hp => ?_
  exact (jss_cons (js_set 2 sc.nd (je_ty j_list T.n_list boot_list (ja_cons (jv 1) ja_nil)))
      (jss_cons (js_set 3 sc.nd (je_lst ja_nil))
      (jss_cons (js_while hp (jt_cmp j_gt (je_bi j_len T.n_len boot_len (ja_cons (jv 2) ja_nil)) je_int) (jss_one (js_expr (je_m j_append tya_list (jv 3) (ja_cons (je_m j_pop tya_list (jv 2) (ja_cons (je_call (ok__law_tip T) hr T.g__law_tip T.F__law_tip.kp T.b__law_tip tk (ja_cons (jv 0) (ja_cons (je_bi j_len T.n_len boot_len (ja_cons (jv 2) ja_nil)) ja_nil))) ja_nil)) ja_nil)))))
      (jss_one (js_ret (jv 3))))))
theorem ok__law_words : FnA P w K mg base 2 T.f__law_words T.d__law_words ["crock", "many", "first"] m__law_words := by
  have sc := sc__law_words
  refine fn_def (k := 1) false T.F__law_words sc fun cdv A outer s H E hr tk hp => ?_
  exact (jss_cons (js_set 3 sc.nd (je_lst ja_nil))
      (jss_cons (js_for hp rfl (ji_rg1 T.n_range (ja_cons (jv 1) ja_nil)) (jg_name 4 sc.nd) (jss_cons (js_set 5 sc.nd (je_op j_add (jv 2) (je_ix (je_tup (ja_cons je_str (ja_cons je_str (ja_cons je_str (ja_cons je_str (ja_cons je_str ja_nil)))))) (je_call (ok__law_tip T) hr T.g__law_tip T.F__law_tip.kp T.b__law_tip tk (ja_cons (jv 0) (ja_cons je_int ja_nil))))))
      (jss_one (js_expr (je_m j_append tya_list (jv 3) (ja_cons (je_if (jt_cmp j_nin (jv 5) (jv 3)) (jv 5) (je_op j_add (je_op j_add (jv 2) je_str) (je_ty j_strOf T.n_str boot_str (ja_cons (jv 4) ja_nil)))) ja_nil))))))
      (jss_one (js_ret (jv 3)))))
theorem ok__law_exchanges : FnA P w K mg base 2 T.f__law_exchanges T.d__law_exchanges ["net", "tree"] m__law_exchanges := by
  have sc := sc__law_exchanges
  refine fn_def (k := 1) false T.F__law_exchanges sc fun cdv A outer s H E hr tk hp => ?_
  exact (jss_cons (js_set 2 sc.nd (je_cut (je_lst ja_nil)))
      (jss_cons (js_for hp rfl (ji_rg1 T.n_range (ja_cons (je_bi j_len T.n_len boot_len (ja_cons (je_ix (jv 0) je_int) ja_nil)) ja_nil)) (jg_name 3 sc.nd) (jss_one (js_if (jt_cmp j_nin (jv 3) (jv 1)) (jss_one (js_set 2 sc.nd (je_cut (je_op j_add (jv 2) (je_lc rfl sc.nd (own := [("other", 4)]) (ji_seq (je_bi j_sortLT T.n_sorted boot_sorted (ja_cons (je_call (ok__law_way T) hr T.g__law_way T.F__law_way.kp T.b__law_way tk (ja_cons (jv 0) (ja_cons (jv 1) (ja_cons (je_ix (je_ix (je_ix (jv 0) je_int) (jv 3)) je_int) (ja_cons (je_ix (je_ix (je_ix (jv 0) je_int) (jv 3)) je_int) ja_nil))))) ja_nil))) (blkOk_by (N := sN__law_exchanges) (sc := defScope s__law_exchanges) (by decide +kernel)) (fun _ _ _ _ _ => (jgw_name 4 sc.nd)) (fun _ _ _ _ _ => by exact jts_nil) (fun _ _ _ _ _ => by exact (je_tup (ja_cons (jv 3) (ja_cons (jv 4) ja_nil))))))))) jss_nil)))
      (jss_one (js_ret (jv 2)))))
theorem ok__law_are_pairs : FnA P w K mg base 2 T.f__law_are_pairs T.d__law_are_pairs ["thing"] m__law_are_pairs := by
  have sc := sc__law_are_pairs
  refine fn_def (k := 1) false T.F__law_are_pairs sc fun cdv A outer s H E hr tk hp => ?_
  exact (jss_cons (js_if (jt_not (jt_truth (je_bi j_isi T.n_isinstance boot_isinstance (ja_cons (jv 0) (ja_cons (je_bty T.n_tuple boot_tuple) ja_nil))))) (jss_one (js_ret je_bl)) jss_nil)
      (jss_one (js_ret (je_cmp j_eq (je_bi j_len T.n_len boot_len (ja_cons (je_lc rfl sc.nd (own := [("one", 1)]) (ji_seq (jv 0)) (blkOk_by (N := sN__law_are_pairs) (sc := defScope s__law_are_pairs) (by decide +kernel)) (fun _ _ _ _ _ => (jgw_name 1 sc.nd)) (fun _ _ _ _ _ => by exact (jts_one (jt_bool (jw_or (jt_not (jt_truth (je_bi j_isi T.n_isinstance boot_isinstance (ja_cons (jv 1) (ja_cons (je_bty T.n_tuple boot_tuple) ja_nil))))) (jw_or (jt_cmp j_ne (je_bi j_len T.n_len boot_len (ja_cons (jv 1) ja_nil)) je_int) (jw_or (jt_not (jt_truth (by exact (je_call (ok__law_whole T) hr T.g__law_whole T.F__law_whole.kp T.b__law_whole takes0 (ja_cons (je_ix (jv 1) je_int) ja_nil))))) (jw_or1 (jt_not (jt_truth (by exact (je_call (ok__law_whole T) hr T.g__law_whole T.F__law_whole.kp T.b__law_whole takes0 (ja_cons (je_ix (jv 1) je_int) ja_nil)))))))))))) (fun _ _ _ _ _ => by exact (jv 1))) ja_nil)) je_int))))
theorem ok_hangs_together : FnA P w K mg base 3 T.f_hangs_together T.d_hangs_together ["net", "lines"] m_hangs_together := by
  have sc := sc_hangs_together
  refine fn_def (k := 2) false T.F_hangs_together sc fun cdv A outer s H E hr tk hp => ?_
  exact (jss_one (js_ret (je_cmp j_eq (je_lenSet rfl T.n_len T.n_set (je_call (ok_homes_by T) hr T.g_homes_by T.F_homes_by.kp T.b_homes_by tk (ja_cons (jv 0) (ja_cons (jv 1) ja_nil)))) je_int)))
theorem ok_way_along : FnA P w K mg base 3 T.f_way_along T.d_way_along ["net", "lines", "one", "other"] m_way_along := by
  have sc := sc_way_along
  refine fn_def (k := 2) false T.F_way_along sc fun cdv A outer s H E hr tk hp => ?_
  exact (jss_cons (js_set 4 sc.nd (je_dict1 (jv 2) je_non))
      (jss_cons (js_set 5 sc.nd (je_lst (ja_cons (jv 2) ja_nil)))
      (jss_cons (js_set 6 sc.nd je_int)
      (jss_cons (js_while hp (jt_cmp j_lt (jv 6) (je_bi j_len T.n_len boot_len (ja_cons (jv 5) ja_nil))) (jss_cons (js_set 7 sc.nd (je_ix (jv 5) (jv 6)))
      (jss_cons (js_aug 6 sc.nd j_iadd je_int)
      (jss_one (js_for hp rfl (ji_seq (je_call (ok_steps_from T) hr T.g_steps_from T.F_steps_from.kp T.b_steps_from tk (ja_cons (jv 0) (ja_cons (jv 1) (ja_cons (jv 7) ja_nil))))) (jg_tup rfl (jgs_cons (jg_name 8 sc.nd) (jgs_cons (jg_name 9 sc.nd) jgs_nil))) (jss_one (js_if (jt_dnin (hu_of hr) (jv 9) (jv 4)) (jss_cons (js_dput (hu_of hr) (jv 4) (jv 9) (je_tup (ja_cons (jv 7) (ja_cons (jv 8) ja_nil))))
      (jss_one (js_expr (je_m j_append tya_list (jv 5) (ja_cons (jv 9) ja_nil))))) jss_nil)))))))
      (jss_cons (js_if (jt_dnin (hu_of hr) (jv 3) (jv 4)) (jss_one (js_ret je_non)) jss_nil)
      (jss_cons (js_set 10 sc.nd (je_lst ja_nil))
      (jss_cons (js_while hp (jt_cmp j_notN (je_dget (hu_of hr) (jv 4) (jv 3)) je_non) (jss_cons (js_asg (je_dget (hu_of hr) (jv 4) (jv 3)) (jg_tup rfl (jgs_cons (jg_name 3 sc.nd) (jgs_cons (jg_name 8 sc.nd) jgs_nil))))
      (jss_one (js_expr (je_m j_append tya_list (jv 10) (ja_cons (jv 8) ja_nil))))))
      (jss_one (js_ret (je_ty j_tuple T.n_tuple boot_tuple (ja_cons (je_revL (jv 10)) ja_nil)))))))))))
theorem ok__law_net : FnA P w K mg base 3 T.f__law_net T.d__law_net ["crock", "places", "more"] m__law_net := by
  have sc := sc__law_net
  refine fn_def (k := 2) false T.F__law_net sc fun cdv A outer s H E hr tk hp => ?_
  have hrL1 := hr.mono (show 1 ≤ 2 by decide)
  exact (jss_cons (js_set 3 sc.nd (je_lst ja_nil))
      (jss_cons (js_set 4 sc.nd (je_call (ok__law_tip T) hrL1 T.g__law_tip T.F__law_tip.kp T.b__law_tip tk (ja_cons (jv 0) (ja_cons je_int ja_nil))))
      (jss_cons (js_for hp rfl (ji_rg2 T.n_range (ja_cons je_int (ja_cons (jv 1) ja_nil))) (jg_name 5 sc.nd) (jss_one (js_expr (je_m j_append tya_list (jv 3) (ja_cons (je_tup (ja_cons (jv 5) (ja_cons (je_ix (je_tup (ja_cons (je_call (ok__law_tip T) hrL1 T.g__law_tip T.F__law_tip.kp T.b__law_tip tk (ja_cons (jv 0) (ja_cons (jv 5) ja_nil))) (ja_cons (je_op j_sub (jv 5) je_int) (ja_cons je_int ja_nil)))) (jv 4)) ja_nil))) ja_nil)))))
      (jss_cons (js_for hp rfl (ji_rg1 T.n_range (ja_cons (jv 2) ja_nil)) (jg_name 6 sc.nd) (jss_cons (js_set 7 sc.nd (je_call (ok__law_tip T) hrL1 T.g__law_tip T.F__law_tip.kp T.b__law_tip tk (ja_cons (jv 0) (ja_cons (jv 1) ja_nil))))
      (jss_cons (js_set 8 sc.nd (je_op j_mod (je_ty j_int T.n_int boot_int (ja_cons (je_op j_add (je_op j_add (jv 7) je_int) (je_call (ok__law_tip T) hrL1 T.g__law_tip T.F__law_tip.kp T.b__law_tip tk (ja_cons (jv 0) (ja_cons (je_op j_sub (jv 1) je_int) ja_nil)))) ja_nil)) (jv 1)))
      (jss_one (js_expr (je_m j_append tya_list (jv 3) (ja_cons (je_if (jt_cmp j_gt (je_call (ok__law_tip T) hrL1 T.g__law_tip T.F__law_tip.kp T.b__law_tip tk (ja_cons (jv 0) (ja_cons je_int ja_nil))) je_int) (je_tup (ja_cons (jv 7) (ja_cons (jv 8) ja_nil))) (je_ix (jv 3) (je_call (ok__law_tip T) hrL1 T.g__law_tip T.F__law_tip.kp T.b__law_tip tk (ja_cons (jv 0) (ja_cons (je_bi j_len T.n_len boot_len (ja_cons (jv 3) ja_nil)) ja_nil))))) ja_nil)))))))
      (jss_cons (js_set 9 sc.nd (je_call (ok__law_words T) hr T.g__law_words T.F__law_words.kp T.b__law_words tk (ja_cons (jv 0) (ja_cons (je_bi j_len T.n_len boot_len (ja_cons (jv 3) ja_nil)) (ja_cons je_str ja_nil)))))
      (jss_cons (js_set 10 sc.nd (je_call (ok__law_mixed T) hr T.g__law_mixed T.F__law_mixed.kp T.b__law_mixed tk (ja_cons (jv 0) (ja_cons (jv 3) ja_nil))))
      (jss_cons (js_set 10 sc.nd (je_cut (je_lc rfl sc.nd (own := [("one", 7), ("other", 8)]) (ji_seq (jv 10)) (blkOk_by (N := sN__law_net) (sc := defScope s__law_net) (by decide +kernel)) (fun _ _ _ _ _ => (jgw_tup rfl (jgsw_cons (jgw_name 7 sc.nd) (jgsw_cons (jgw_name 8 sc.nd) jgsw_nil)))) (fun _ _ _ _ _ => by exact jts_nil) (fun _ _ _ _ _ => by exact (je_if (jt_cmp j_eq (by exact (je_call (ok__law_tip T) hrL1 T.g__law_tip T.F__law_tip.kp T.b__law_tip takes0 (ja_cons (jv 0) (ja_cons je_int ja_nil)))) je_int) (je_tup (ja_cons (jv 7) (ja_cons (jv 8) ja_nil))) (je_tup (ja_cons (jv 8) (ja_cons (jv 7) ja_nil))))))))
      (jss_one (js_ret (je_tup (ja_cons (je_ty j_tuple T.n_tuple boot_tuple (ja_cons (je_call (ok__law_words T) hr T.g__law_words T.F__law_words.kp T.b__law_words tk (ja_cons (jv 0) (ja_cons (jv 1) (ja_cons je_str ja_nil)))) ja_nil)) (ja_cons (je_ty j_tuple T.n_tuple boot_tuple (ja_cons (je_lc rfl sc.nd (own := [("at", 5)]) (ji_rg1 T.n_range (ja_cons (je_bi j_len T.n_len boot_len (ja_cons (jv 10) ja_nil)) ja_nil)) (blkOk_by (N := sN__law_net) (sc := defScope s__law_net) (by decide +kernel)) (fun _ _ _ _ _ => (jgw_name 5 sc.nd)) (fun _ _ _ _ _ => by exact jts_nil) (fun _ _ _ _ _ => by exact (je_op j_add (je_tup (ja_cons (je_ix (jv 9) (jv 5)) ja_nil)) (je_ix (jv 10) (jv 5))))) ja_nil)) ja_nil))))))))))))
theorem ok__law_grown : FnA P w K mg base 3 T.f__law_grown T.d__law_grown ["crock", "net", "wished"] m__law_grown := by
  have sc := sc__law_grown
  refine fn_def (k := 2) false T.F__law_grown sc fun cdv A outer s H E hr tk hp => ?_
  exact (jss_cons (js_set 3 sc.nd (je_cut (je_op j_add (je_ty j_list T.n_list boot_list (ja_cons (jv 2) ja_nil)) (je_lc rfl sc.nd (own := [("line", 6)]) (ji_seq (je_call (ok__law_mixed T) hr T.g__law_mixed T.F__law_mixed.kp T.b__law_mixed tk (ja_cons (jv 0) (ja_cons (je_lstRg1 rfl T.n_list T.n_range (je_bi j_len T.n_len boot_len (ja_cons (je_ix (jv 1) je_int) ja_nil))) ja_nil)))) (blkOk_by (N := sN__law_grown) (sc := defScope s__law_grown) (by decide +kernel)) (fun _ _ _ _ _ => (jgw_name 6 sc.nd)) (fun _ _ _ _ _ => by exact (jts_one (jt_cmp j_nin (jv 6) (jv 2)))) (fun _ _ _ _ _ => by exact (jv 6))))))
      (jss_cons (js_set 4 sc.nd (je_cut (je_lstRg1 rfl T.n_list T.n_range (je_bi j_len T.n_len boot_len (ja_cons (je_ix (jv 1) je_int) ja_nil)))))
      (jss_cons (js_set 5 sc.nd (je_lst ja_nil))
      (jss_cons (js_for hp rfl (ji_seq (jv 3)) (jg_name 6 sc.nd) (jss_cons (js_asg (je_tup (ja_cons (je_ix (jv 4) (je_ix (je_ix (je_ix (jv 1) je_int) (jv 6)) je_int)) (ja_cons (je_ix (jv 4) (je_ix (je_ix (je_ix (jv 1) je_int) (jv 6)) je_int)) ja_nil))) (jg_tup rfl (jgs_cons (jg_name 7 sc.nd) (jgs_cons (jg_name 8 sc.nd) jgs_nil))))
      (jss_one (js_if (jt_cmp j_ne (jv 7) (jv 8)) (jss_cons (js_expr (je_m j_append tya_list (jv 5) (ja_cons (jv 6) ja_nil)))
      (jss_one (js_cut 4 (js_setLc 4 rfl sc.nd (own := [("at", 9)]) (ji_seq (jv 4)) (blkOk_by (N := sN__law_grown) (sc := defScope s__law_grown) (by decide +kernel)) (fun _ _ _ _ _ => (jgw_name 9 sc.nd)) (fun _ _ _ _ _ => by exact jts_nil) (fun _ _ _ _ _ => by exact (je_if (jt_cmp j_in (jv 9) (je_tup (ja_cons (jv 7) (ja_cons (jv 8) ja_nil)))) (je_bi (j_min rfl) T.n_min boot_min (ja_cons (jv 7) (ja_cons (jv 8) ja_nil))) (jv 9))))))) jss_nil))))
      (jss_one (js_ret (je_ty j_tuple T.n_tuple boot_tuple (ja_cons (je_bi j_sortLT T.n_sorted boot_sorted (ja_cons (jv 5) ja_nil)) ja_nil))))))))
theorem ok__law_leads : FnA P w K mg base 3 T.f__law_leads T.d__law_leads ["net", "one", "other", "thing"] m__law_leads := by
  have sc := sc__law_leads
  refine fn_def (k := 2) false T.F__law_leads sc fun cdv A outer s H E hr tk hp => ?_
  have hrL1 := hr.mono (show 1 ≤ 2 by decide)
  exact (jss_cons (js_if (jt_cut (jt_bool (jw_or (jt_not (jt_truth (je_call (ok__law_are_pairs T) hr T.g__law_are_pairs T.F__law_are_pairs.kp T.b__law_are_pairs tk (ja_cons (jv 3) ja_nil)))) (jw_or1 (jt_cmp j_ne (je_bi j_len T.n_len boot_len (ja_cons (jv 3) ja_nil)) (je_bi j_len T.n_len boot_len (ja_cons (je_lc rfl sc.nd (own := [("line", 6)]) (ji_seq (jv 1)) (blkOk_by (N := sN__law_leads) (sc := defScope s__law_leads) (by decide +kernel)) (fun _ _ _ _ _ => (jgw_name 6 sc.nd)) (fun _ _ _ _ _ => by exact (jts_one (jt_cmp j_nin (jv 6) (jv 2)))) (fun _ _ _ _ _ => by exact (jv 6))) ja_nil))))))) (jss_one (js_ret je_bl)) jss_nil)
      (jss_cons (js_set 4 sc.nd (jv 1))
      (jss_cons (js_for hp rfl (ji_seq (jv 3)) (jg_name 5 sc.nd) (jss_cons (js_if (jt_cmp (j_ninD (hu65 hr)) (jv 5) (je_call (ok__law_exchanges T) hr T.g__law_exchanges T.F__law_exchanges.kp T.b__law_exchanges tk (ja_cons (jv 0) (ja_cons (jv 4) ja_nil)))) (jss_one (js_ret je_bl)) jss_nil)
      (jss_one (js_set 4 sc.nd (je_call (ok__law_after T) hrL1 T.g__law_after T.F__law_after.kp T.b__law_after tk (ja_cons (jv 4) (ja_cons (jv 5) ja_nil)))))))
      (jss_one (js_ret (je_cmp (j_eqD (hu65 hr)) (jv 4) (jv 2)))))))
theorem ok__law_row : FnA P w K mg base 3 T.f__law_row T.d__law_row ["crock", "net", "one", "other"] m__law_row := by
  have sc := sc__law_row
  refine fn_def (k := 2) false T.F__law_row sc fun cdv A outer s H E hr tk hp => ?_
  have hrL1 := hr.mono (show 1 ≤ 2 by decide)
  exact (jss_cons (js_set 4 sc.nd (je_lst ja_nil))
      (jss_cons (js_set 5 sc.nd (jv 2))
      (jss_cons (js_for hp rfl (ji_seq (je_call (ok__law_mixed T) hr T.g__law_mixed T.F__law_mixed.kp T.b__law_mixed tk (ja_cons (jv 0) (ja_cons (je_lc rfl sc.nd (own := [("line", 6)]) (ji_seq (jv 3)) (blkOk_by (N := sN__law_row) (sc := defScope s__law_row) (by decide +kernel)) (fun _ _ _ _ _ => (jgw_name 6 sc.nd)) (fun _ _ _ _ _ => by exact (jts_one (jt_cmp j_nin (jv 6) (jv 2)))) (fun _ _ _ _ _ => by exact (jv 6))) ja_nil)))) (jg_name 6 sc.nd) (jss_cons (js_cut 7 (js_setLc 7 rfl sc.nd (own := [("at", 9)]) (ji_seq (je_call (ok__law_way T) hrL1 T.g__law_way T.F__law_way.kp T.b__law_way tk (ja_cons (jv 1) (ja_cons (jv 5) (ja_cons (je_ix (je_ix (je_ix (jv 1) je_int) (jv 6)) je_int) (ja_cons (je_ix (je_ix (je_ix (jv 1) je_int) (jv 6)) je_int) ja_nil)))))) (blkOk_by (N := sN__law_row) (sc := defScope s__law_row) (by decide +kernel)) (fun _ _ _ _ _ => (jgw_name 9 sc.nd)) (fun _ _ _ _ _ => by exact (jts_one (jt_cmp j_nin (jv 9) (jv 3)))) (fun _ _ _ _ _ => by exact (jv 9))))
      (jss_cons (js_set 8 sc.nd (je_tup (ja_cons (jv 6) (ja_cons (je_ix (jv 7) (je_call (ok__law_tip T) hrL1 T.g__law_tip T.F__law_tip.kp T.b__law_tip tk (ja_cons (jv 0) (ja_cons (je_bi j_len T.n_len boot_len (ja_cons (jv 7) ja_nil)) ja_nil)))) ja_nil))))
      (jss_cons (js_expr (je_m j_append tya_list (jv 4) (ja_cons (jv 8) ja_nil)))
      (jss_one (js_set 5 sc.nd (je_call (ok__law_after T) hrL1 T.g__law_after T.F__law_after.kp T.b__law_after tk (ja_cons (jv 5) (ja_cons (jv 8) ja_nil)))))))))
      (jss_one (js_ret (je_ty j_tuple T.n_tuple boot_tuple (ja_cons (jv 4) ja_nil)))))))
theorem ok__law_bent : FnA P w K mg base 3 T.f__law_bent T.d__law_bent ["crock", "net", "one", "row"] m__law_bent := by
  have sc := sc__law_bent
  refine fn_def (k := 2) false T.F__law_bent sc fun cdv A outer s H E hr tk hp => ?_
  have hrL1 := hr.mono (show 1 ≤ 2 by decide)
  exact (jss_cons (js_set 4 sc.nd (je_cut (je_lst (ja_cons (je_revT (jv 3)) (ja_cons (je_ty j_list T.n_list boot_list (ja_cons (jv 3) ja_nil)) (ja_cons (je_op j_add (jv 3) (je_sl (jv 3) jp_none (jp_some je_int))) (ja_cons (je_sl (jv 3) jp_none (jp_some (je_neg je_int))) (ja_cons (je_sl (jv 3) (jp_some je_int) jp_none) (ja_cons (je_ty j_tuple T.n_tuple boot_tuple (ja_cons (je_lc rfl sc.nd (own := [("pair", 7)]) (ji_seq (jv 3)) (blkOk_by (N := sN__law_bent) (sc := defScope s__law_bent) (by decide +kernel)) (fun _ _ _ _ _ => (jgw_name 7 sc.nd)) (fun _ _ _ _ _ => by exact jts_nil) (fun _ _ _ _ _ => by exact (je_cut (je_ty j_list T.n_list boot_list (ja_cons (jv 7) ja_nil))))) ja_nil)) ja_nil)))))))))
      (jss_cons (js_set 4 sc.nd (je_cut (je_op j_add (jv 4) (je_lst (ja_cons (je_ty j_tuple T.n_tuple boot_tuple (ja_cons (je_lc rfl sc.nd (own := [("pair", 7)]) (ji_seq (jv 3)) (blkOk_by (N := sN__law_bent) (sc := defScope s__law_bent) (by decide +kernel)) (fun _ _ _ _ _ => (jgw_name 7 sc.nd)) (fun _ _ _ _ _ => by exact jts_nil) (fun _ _ _ _ _ => by exact (je_cut (je_revT (jv 7))))) ja_nil)) (ja_cons je_non (ja_cons (je_tup (ja_cons (jv 3) ja_nil)) (ja_cons (je_ty j_tuple T.n_tuple boot_tuple (ja_cons (je_lc rfl sc.nd (own := [("pair", 7)]) (ji_seq (jv 3)) (blkOk_by (N := sN__law_bent) (sc := defScope s__law_bent) (by decide +kernel)) (fun _ _ _ _ _ => (jgw_name 7 sc.nd)) (fun _ _ _ _ _ => by exact jts_nil) (fun _ _ _ _ _ => by exact (je_tup (ja_cons (je_cmp j_eq (je_ix (jv 7) je_int) je_int) (ja_cons (je_ix (jv 7) je_int) ja_nil))))) ja_nil)) ja_nil))))))))
      (jss_cons (js_set 5 sc.nd (je_call (ok__law_exchanges T) hr T.g__law_exchanges T.F__law_exchanges.kp T.b__law_exchanges tk (ja_cons (jv 1) (ja_cons (jv 2) ja_nil))))
      (jss_cons (js_if (jt_bool (jw_and (jt_cmp j_gt (je_bi j_len T.n_len boot_len (ja_cons (jv 3) ja_nil)) je_int) (jw_and1 (jt_cmp j_gt (je_bi j_len T.n_len boot_len (ja_cons (jv 5) ja_nil)) je_int)))) (jss_cons (js_set 6 sc.nd (je_call (ok__law_tip T) hrL1 T.g__law_tip T.F__law_tip.kp T.b__law_tip tk (ja_cons (jv 0) (ja_cons (je_bi j_len T.n_len boot_len (ja_cons (jv 3) ja_nil)) ja_nil))))
      (jss_cons (js_set 7 sc.nd (je_ix (jv 5) (je_call (ok__law_tip T) hrL1 T.g__law_tip T.F__law_tip.kp T.b__law_tip tk (ja_cons (jv 0) (ja_cons (je_bi j_len T.n_len boot_len (ja_cons (jv 5) ja_nil)) ja_nil)))))
      (jss_cons (js_asg (je_ix (jv 3) (jv 6)) (jg_tup rfl (jgs_cons (jg_name 8 sc.nd) (jgs_cons (jg_name 9 sc.nd) jgs_nil))))
      (jss_cons (js_set 4 sc.nd (je_cut (je_op j_add (jv 4) (je_lst (ja_cons (je_op j_add (je_op j_add (je_sl (jv 3) jp_none (jp_some (jv 6))) (je_tup (ja_cons (jv 7) ja_nil))) (je_sl (jv 3) (jp_some (je_op j_add (jv 6) je_int)) jp_none)) (ja_cons (je_op j_add (je_op j_add (je_sl (jv 3) jp_none (jp_some (jv 6))) (je_tup (ja_cons (je_tup (ja_cons (jv 8) (ja_cons (je_ix (jv 7) je_int) ja_nil))) ja_nil))) (je_sl (jv 3) (jp_some (je_op j_add (jv 6) je_int)) jp_none)) (ja_cons (je_op j_add (je_tup (ja_cons (jv 7) (ja_cons (je_revT (jv 7)) ja_nil))) (jv 3)) (ja_cons (je_op j_add (je_op j_add (je_sl (jv 3) jp_none (jp_some (jv 6))) (je_tup (ja_cons (je_tup (ja_cons (jv 8) (ja_cons (jv 9) (ja_cons je_int ja_nil)))) ja_nil))) (je_sl (jv 3) (jp_some (je_op j_add (jv 6) je_int)) jp_none)) ja_nil))))))))
      (jss_cons (js_set 10 sc.nd (je_call (ok__law_tip T) hrL1 T.g__law_tip T.F__law_tip.kp T.b__law_tip tk (ja_cons (jv 0) (ja_cons (je_bi j_len T.n_len boot_len (ja_cons (jv 3) ja_nil)) ja_nil))))
      (jss_cons (js_set 11 sc.nd (je_ty j_list T.n_list boot_list (ja_cons (jv 3) ja_nil)))
      (jss_cons (js_asg (je_tup (ja_cons (je_tup (ja_cons (jv 8) (ja_cons (je_ix (je_ix (jv 3) (jv 10)) je_int) ja_nil))) (ja_cons (je_tup (ja_cons (je_ix (je_ix (jv 3) (jv 10)) je_int) (ja_cons (jv 9) ja_nil))) ja_nil))) (jg_tup rfl (jgs_cons (jg_subL (jv 11) (jv 6)) (jgs_cons (jg_subL (jv 11) (jv 10)) jgs_nil))))
      (jss_one (js_set 4 sc.nd (je_cut (je_op j_add (jv 4) (je_op j_mul (je_lst (ja_cons (je_ty j_tuple T.n_tuple boot_tuple (ja_cons (jv 11) ja_nil)) ja_nil)) je_int)))))))))))) jss_nil)
      (jss_one (js_ret (je_ix (jv 4) (je_call (ok__law_tip T) hrL1 T.g__law_tip T.F__law_tip.kp T.b__law_tip tk (ja_cons (jv 0) (ja_cons (je_bi j_len T.n_len boot_len (ja_cons (jv 4) ja_nil)) ja_nil))))))))))
theorem ok_need_together : FnA P w K mg base 4 T.f_need_together T.d_need_together ["net"] m_need_together := by
  have sc := sc_need_together
  refine fn_def (k := 3) false T.F_need_together sc fun cdv A outer s H E hr tk hp => ?_
  have hrL1 := hr.mono (show 1 ≤ 3 by decide)
  exact (jss_one (js_if (jt_not (jt_truth (je_call (ok_hangs_together T) hr T.g_hangs_together T.F_hangs_together.kp T.b_hangs_together tk (ja_cons (jv 0) (ja_cons (je_call (ok_all_lines T) hrL1 T.g_all_lines T.F_all_lines.kp T.b_all_lines tk (ja_cons (jv 0) ja_nil)) ja_nil))))) (jss_one js_never) jss_nil))
theorem ok_ring_of : FnA P w K mg base 4 T.f_ring_of T.d_ring_of ["net", "tree", "line"] m_ring_of := by
  have sc := sc_ring_of
  refine fn_def (k := 3) false T.F_ring_of sc fun cdv A outer s H E hr tk hp => ?_
  have hrL1 := hr.mono (show 1 ≤ 3 by decide)
  exact (jss_cons (js_asg (je_call (ok_ends_of T) hrL1 T.g_ends_of T.F_ends_of.kp T.b_ends_of tk (ja_cons (jv 0) (ja_cons (jv 2) ja_nil))) (jg_tup rfl (jgs_cons (jg_name 3 sc.nd) (jgs_cons (jg_name 4 sc.nd) jgs_nil))))
      (jss_one (js_ret (je_ty j_tuple T.n_tuple boot_tuple (ja_cons (je_bi j_sortLT T.n_sorted boot_sorted (ja_cons (je_op j_add (je_call (ok_way_along T) hr T.g_way_along T.F_way_along.kp T.b_way_along tk (ja_cons (jv 0) (ja_cons (jv 1) (ja_cons (jv 3) (ja_cons (jv 4) ja_nil))))) (je_tup (ja_cons (jv 2) ja_nil))) ja_nil)) ja_nil)))))
theorem ok_exchanges_by : FnA P w K mg base 5 T.f_exchanges_by T.d_exchanges_by ["net", "tree"] m_exchanges_by := by
  have sc := sc_exchanges_by
  refine fn_def (k := 4) false T.F_exchanges_by sc fun cdv A outer s H E hr tk hp => ?_
  have hrL1 := hr.mono (show 1 ≤ 4 by decide)
  exact (jss_cons (js_set 2 sc.nd (je_lst ja_nil))
      (jss_cons (js_for hp rfl (ji_seq (je_call (ok_all_lines T) hrL1 T.g_all_lines T.F_all_lines.kp T.b_all_lines tk (ja_cons (jv 0) ja_nil))) (jg_name 3 sc.nd) (jss_one (js_if (jt_cmp j_nin (jv 3) (jv 1)) (jss_one (js_expr (je_m j_extend tya_list (jv 2) (ja_cons (je_lc rfl sc.nd (own := [("other", 4)]) (ji_seq (je_call (ok_ring_of T) hr T.g_ring_of T.F_ring_of.kp T.b_ring_of tk (ja_cons (jv 0) (ja_cons (jv 1) (ja_cons (jv 3) ja_nil))))) (blkOk_by (N := sN_exchanges_by) (sc := defScope s_exchanges_by) (by decide +kernel)) (fun _ _ _ _ _ => (jgw_name 4 sc.nd)) (fun _ _ _ _ _ => by exact (jts_one (jt_cmp j_ne (jv 4) (jv 3)))) (fun _ _ _ _ _ => by exact (je_tup (ja_cons (jv 3) (ja_cons (jv 4) ja_nil))))) ja_nil)))) jss_nil)))
      (jss_one (js_ret (je_ty j_tuple T.n_tuple boot_tuple (ja_cons (jv 2) ja_nil))))))
theorem ok_exchanges_of : FnA P w K mg base 6 T.f_exchanges_of T.d_exchanges_of ["net", "tree"] m_exchanges_of := by
  have sc := sc_exchanges_of
  refine fn_def (k := 5) false T.F_exchanges_of sc fun cdv A outer s H E hr tk hp => ?_
  have hrL4 := hr.mono (show 4 ≤ 5 by decide)
  exact (jss_cons (js_expr (je_call (ok_need_together T) hrL4 T.g_need_together T.F_need_together.kp T.b_need_together tk (ja_cons (jv 0) ja_nil)))
      (jss_one (js_ret (je_call (ok_exchanges_by T) hr T.g_exchanges_by T.F_exchanges_by.kp T.b_exchanges_by tk (ja_cons (jv 0) (ja_cons (jv 1) ja_nil))))))
theorem ok_is_exchange : FnA P w K mg base 6 T.f_is_exchange T.d_is_exchange ["net", "tree", "thing"] m_is_exchange := by
  have sc := sc_is_exchange
  refine fn_def (k := 5) false T.F_is_exchange sc fun cdv A outer s H E hr tk hp => ?_
  have hrL1 := hr.mono (show 1 ≤ 5 by decide)
  have hrL2 := hr.mono (show 2 ≤ 5 by decide)
  have hrL4 := hr.mono (show 4 ≤ 5 by decide)
  exact (jss_cons (js_expr (je_call (ok_need_together T) hrL4 T.g_need_together T.F_need_together.kp T.b_need_together tk (ja_cons (jv 0) ja_nil)))
      (jss_one (js_ret (je_and (je_call (ok_tuple_of T) hrL1 T.g_tuple_of T.F_tuple_of.kp T.b_tuple_of tk (ja_cons (jv 2) (ja_cons je_int ja_nil))) (je_and (je_call (ok_are_integers T) hrL2 T.g_are_integers T.F_are_integers.kp T.b_are_integers tk (ja_cons (jv 2) ja_nil)) (je_one (je_cmp (j_inD (hu65 hr)) (jv 2) (je_call (ok_exchanges_by T) hr T.g_exchanges_by T.F_exchanges_by.kp T.b_exchanges_by tk (ja_cons (jv 0) (ja_cons (jv 1) ja_nil))))))))))
theorem ok_nearer_exchange : FnA P w K mg base 6 T.f_nearer_exchange T.d_nearer_exchange ["net", "tree", "other"] m_nearer_exchange := by
  have sc := sc_nearer_exchange
  refine fn_def (k := 5) false T.F_nearer_exchange sc fun cdv A outer s H E hr tk hp => ?_
  exact (jss_one (js_ret (je_ix (je_lc rfl sc.nd (own := [("part", 3)]) (ji_seq (je_call (ok_exchanges_by T) hr T.g_exchanges_by T.F_exchanges_by.kp T.b_exchanges_by tk (ja_cons (jv 0) (ja_cons (jv 1) ja_nil)))) (blkOk_by (N := sN_nearer_exchange) (sc := defScope s_nearer_exchange) (by decide +kernel)) (fun _ _ _ _ _ => (jgw_name 3 sc.nd)) (fun _ _ _ _ _ => by exact (jts_one (jt_bool (jw_and (jt_cmp j_in (je_ix (jv 3) je_int) (jv 2)) (jw_and1 (jt_cmp j_nin (je_ix (jv 3) je_int) (jv 2))))))) (fun _ _ _ _ _ => by exact (jv 3))) je_int)))
theorem ok_step_row : FnA P w K mg base 7 T.f_step_row T.d_step_row ["net", "one", "other"] m_step_row := by
  have sc := sc_step_row
  refine fn_def (k := 6) false T.F_step_row sc fun cdv A outer s H E hr tk hp => ?_
  have hrL1 := hr.mono (show 1 ≤ 6 by decide)
  have hrL4 := hr.mono (show 4 ≤ 6 by decide)
  exact (jss_cons (js_expr (je_call (ok_need_together T) hrL4 T.g_need_together T.F_need_together.kp T.b_need_together tk (ja_cons (jv 0) ja_nil)))
      (jss_cons (js_set 3 sc.nd (je_lst ja_nil))
      (jss_cons (js_set 4 sc.nd (jv 1))
      (jss_cons (js_while hp (jt_cmp (j_neD (hu65 hr)) (jv 4) (jv 2)) (jss_cons (js_expr (je_m j_append tya_list (jv 3) (ja_cons (je_call (ok_nearer_exchange T) hr T.g_nearer_exchange T.F_nearer_exchange.kp T.b_nearer_exchange tk (ja_cons (jv 0) (ja_cons (jv 4) (ja_cons (jv 2) ja_nil)))) ja_nil)))
      (jss_one (js_set 4 sc.nd (je_call (ok_exchanged T) hrL1 T.g_exchanged T.F_exchanged.kp T.b_exchanged tk (ja_cons (jv 4) (ja_cons (je_ix (jv 3) (je_neg je_int)) ja_nil)))))))
      (jss_one (js_ret (je_ty j_tuple T.n_tuple boot_tuple (ja_cons (jv 3) ja_nil))))))))
theorem ok_is_step_row : FnA P w K mg base 7 T.f_is_step_row T.d_is_step_row ["net", "one", "other", "thing"] m_is_step_row := by
  have sc := sc_is_step_row
  refine fn_def (k := 6) false T.F_is_step_row sc fun cdv A outer s H E hr tk hp => ?_
  have hrL1 := hr.mono (show 1 ≤ 6 by decide)
  have hrL4 := hr.mono (show 4 ≤ 6 by decide)
  exact (jss_cons (js_expr (je_call (ok_need_together T) hrL4 T.g_need_together T.F_need_together.kp T.b_need_together tk (ja_cons (jv 0) ja_nil)))
      (jss_cons (js_if (jt_bool (jw_or (jt_not (jt_truth (je_bi j_isi T.n_isinstance boot_isinstance (ja_cons (jv 3) (ja_cons (je_bty T.n_tuple boot_tuple) ja_nil))))) (jw_or1 (jt_cmp j_ne (je_bi j_len T.n_len boot_len (ja_cons (jv 3) ja_nil)) (je_call (ok_fewest_steps T) hrL1 T.g_fewest_steps T.F_fewest_steps.kp T.b_fewest_steps tk (ja_cons (jv 1) (ja_cons (jv 2) ja_nil))))))) (jss_one (js_ret je_bl)) jss_nil)
      (jss_cons (js_set 4 sc.nd (jv 1))
      (jss_cons (js_for hp rfl (ji_seq (jv 3)) (jg_name 5 sc.nd) (jss_cons (js_if (jt_not (jt_truth (je_call (ok_is_exchange T) hr T.g_is_exchange T.F_is_exchange.kp T.b_is_exchange tk (ja_cons (jv 0) (ja_cons (jv 4) (ja_cons (jv 5) ja_nil)))))) (jss_one (js_ret je_bl)) jss_nil)
      (jss_one (js_set 4 sc.nd (je_call (ok_exchanged T) hrL1 T.g_exchanged T.F_exchanged.kp T.b_exchanged tk (ja_cons (jv 4) (ja_cons (jv 5) ja_nil)))))))
      (jss_one (js_ret (je_cmp (j_eqD (hu65 hr)) (jv 4) (jv 2))))))))
theorem ok_even_exchange : FnA P w K mg base 7 T.f_even_exchange T.d_even_exchange ["net", "one", "other", "line"] m_even_exchange := by
  have sc := sc_even_exchange
  refine fn_def (k := 6) false T.F_even_exchange sc fun cdv A outer s H E hr tk hp => ?_
  exact (jss_cons (js_set 4 sc.nd (je_call (ok_exchanges_of T) hr T.g_exchanges_of T.F_exchanges_of.kp T.b_exchanges_of tk (ja_cons (jv 0) (ja_cons (jv 1) ja_nil))))
      (jss_cons (js_set 5 sc.nd (je_call (ok_exchanges_of T) hr T.g_exchanges_of T.F_exchanges_of.kp T.b_exchanges_of tk (ja_cons (jv 0) (ja_cons (jv 2) ja_nil))))
      (jss_cons (js_for hp rfl (ji_seq (jv 2)) (jg_name 6 sc.nd) (jss_one (js_if (jt_bool (jw_and (jt_cmp j_nin (jv 6) (jv 1)) (jw_and (jt_cmp (j_inD (hu65 hr)) (je_tup (ja_cons (jv 6) (ja_cons (jv 3) ja_nil))) (jv 4)) (jw_and1 (jt_cmp (j_inD (hu65 hr)) (je_tup (ja_cons (jv 3) (ja_cons (jv 6) ja_nil))) (jv 5)))))) (jss_one (js_ret (jv 6))) jss_nil)))
      (jss_one (js_ret je_non)))))
theorem ok__law_asked : FnA P w K mg base 8 T.f__law_asked T.d__law_asked ["crock", "net", "one", "other"] m__law_asked := by
  have sc := sc__law_asked
  refine fn_def (k := 7) false T.F__law_asked sc fun cdv A outer s H E hr tk hp => ?_
  have hrL1 := hr.mono (show 1 ≤ 7 by decide)
  have hrL3 := hr.mono (show 3 ≤ 7 by decide)
  exact (jss_cons (js_cut 4 (js_setLc 4 rfl sc.nd (own := [("line", 8)]) (ji_seq (jv 2)) (blkOk_by (N := sN__law_asked) (sc := defScope s__law_asked) (by decide +kernel)) (fun _ _ _ _ _ => (jgw_name 8 sc.nd)) (fun _ _ _ _ _ => by exact (jts_one (jt_cmp j_nin (jv 8) (jv 3)))) (fun _ _ _ _ _ => by exact (jv 8))))
      (jss_cons (js_if (jt_not (jt_truth (je_call (ok__law_same T) hrL1 T.g__law_same T.F__law_same.kp T.b__law_same tk (ja_cons (je_tup (ja_cons (je_call (ok_fewest_steps T) hrL1 T.g_fewest_steps T.F_fewest_steps.kp T.b_fewest_steps tk (ja_cons (jv 2) (ja_cons (jv 3) ja_nil))) (ja_cons (je_callK0 (ok_fewest_steps T) hrL1 T.g_fewest_steps T.F_fewest_steps.kp (kb_fewest_steps_0_other_one T) tk (jk_cons (jv 2) (jk_cons (jv 3) jk_nil))) ja_nil))) (ja_cons (je_tup (ja_cons (je_bi j_len T.n_len boot_len (ja_cons (jv 4) ja_nil)) (ja_cons (je_bi j_len T.n_len boot_len (ja_cons (jv 4) ja_nil)) ja_nil))) ja_nil))))) (jss_one (js_ret je_bl)) jss_nil)
      (jss_cons (js_if (jt_not (jt_truth (je_call (ok__law_leads T) hrL3 T.g__law_leads T.F__law_leads.kp T.b__law_leads tk (ja_cons (jv 1) (ja_cons (jv 2) (ja_cons (jv 3) (ja_cons (je_call (ok_step_row T) hr T.g_step_row T.F_step_row.kp T.b_step_row tk (ja_cons (jv 1) (ja_cons (jv 2) (ja_cons (jv 3) ja_nil)))) ja_nil))))))) (jss_one (js_ret je_bl)) jss_nil)
      (jss_cons (js_set 5 sc.nd (je_call (ok__law_row T) hrL3 T.g__law_row T.F__law_row.kp T.b__law_row tk (ja_cons (jv 0) (ja_cons (jv 1) (ja_cons (jv 2) (ja_cons (jv 3) ja_nil))))))
      (jss_cons (js_if (jt_not (jt_truth (je_call (ok__law_same T) hrL1 T.g__law_same T.F__law_same.kp T.b__law_same tk (ja_cons (je_call (ok_is_step_row T) hr T.g_is_step_row T.F_is_step_row.kp T.b_is_step_row tk (ja_cons (jv 1) (ja_cons (jv 2) (ja_cons (jv 3) (ja_cons (jv 5) ja_nil))))) (ja_cons je_bl ja_nil))))) (jss_one (js_ret je_bl)) jss_nil)
      (jss_cons (js_for hp rfl (ji_rg1 T.n_range (ja_cons je_int ja_nil)) (jg_name 6 sc.nd) (jss_cons (js_set 7 sc.nd (je_call (ok__law_bent T) hrL3 T.g__law_bent T.F__law_bent.kp T.b__law_bent tk (ja_cons (jv 0) (ja_cons (jv 1) (ja_cons (jv 2) (ja_cons (jv 5) ja_nil))))))
      (jss_one (js_if (jt_not (jt_truth (je_call (ok__law_same T) hrL1 T.g__law_same T.F__law_same.kp T.b__law_same tk (ja_cons (je_callK0 (ok_is_step_row T) hr T.g_is_step_row T.F_is_step_row.kp (kb_is_step_row_0_thing_other_one_net T) tk (jk_cons (jv 7) (jk_cons (jv 3) (jk_cons (jv 2) (jk_cons (jv 1) jk_nil))))) (ja_cons (je_call (ok__law_leads T) hrL3 T.g__law_leads T.F__law_leads.kp T.b__law_leads tk (ja_cons (jv 1) (ja_cons (jv 2) (ja_cons (jv 3) (ja_cons (jv 7) ja_nil))))) ja_nil))))) (jss_one (js_ret je_bl)) jss_nil))))
      (jss_cons (js_for hp rfl (ji_seq (jv 4)) (jg_name 8 sc.nd) (jss_cons (js_set 9 sc.nd je_non)
      (jss_cons (js_for hp rfl (ji_seq (je_bi j_sortLT T.n_sorted boot_sorted (ja_cons (je_lc rfl sc.nd (own := [("at", 10)]) (ji_seq (jv 3)) (blkOk_by (N := sN__law_asked) (sc := defScope s__law_asked) (by decide +kernel)) (fun _ _ _ _ _ => (jgw_name 10 sc.nd)) (fun _ _ _ _ _ => by exact (jts_one (jt_cmp j_nin (jv 10) (jv 2)))) (fun _ _ _ _ _ => by exact (jv 10))) ja_nil))) (jg_name 10 sc.nd) (jss_one (js_if (jt_bool (jw_and (jt_cmp j_isN (jv 9) je_non) (jw_and (jt_cmp j_in (jv 8) (je_call (ok__law_way T) hrL1 T.g__law_way T.F__law_way.kp T.b__law_way tk (ja_cons (jv 1) (ja_cons (jv 2) (ja_cons (je_ix (je_ix (je_ix (jv 1) je_int) (jv 10)) je_int) (ja_cons (je_ix (je_ix (je_ix (jv 1) je_int) (jv 10)) je_int) ja_nil)))))) (jw_and1 (jt_cmp j_in (jv 10) (je_call (ok__law_way T) hrL1 T.g__law_way T.F__law_way.kp T.b__law_way tk (ja_cons (jv 1) (ja_cons (jv 3) (ja_cons (je_ix (je_ix (je_ix (jv 1) je_int) (jv 8)) je_int) (ja_cons (je_ix (je_ix (je_ix (jv 1) je_int) (jv 8)) je_int) ja_nil)))))))))) (jss_one (js_set 9 sc.nd (jv 10))) jss_nil)))
      (jss_one (js_if (jt_bool (jw_or (jt_cmp j_isN (jv 9) je_non) (jw_or1 (jt_not (jt_truth (je_call (ok__law_same T) hrL1 T.g__law_same T.F__law_same.kp T.b__law_same tk (ja_cons (je_call (ok_even_exchange T) hr T.g_even_exchange T.F_even_exchange.kp T.b_even_exchange tk (ja_cons (jv 1) (ja_cons (jv 2) (ja_cons (jv 3) (ja_cons (jv 8) ja_nil))))) (ja_cons (jv 9) ja_nil)))))))) (jss_one (js_ret je_bl)) jss_nil)))))
      (jss_one (js_ret je_bl)))))))))
theorem ok__law_drawn : FnA P w K mg base 9 T.f__law_drawn T.d__law_drawn ["crock", "places", "more"] m__law_drawn := by
  have sc := sc__law_drawn
  refine fn_def (k := 8) false T.F__law_drawn sc fun cdv A outer s H E hr tk hp => ?_
  have hrL1 := hr.mono (show 1 ≤ 8 by decide)
  have hrL2 := hr.mono (show 2 ≤ 8 by decide)
  have hrL3 := hr.mono (show 3 ≤ 8 by decide)
  exact (jss_cons (js_set 3 sc.nd (je_call (ok__law_net T) hrL3 T.g__law_net T.F__law_net.kp T.b__law_net tk (ja_cons (jv 0) (ja_cons (jv 1) (ja_cons (jv 2) ja_nil)))))
      (jss_cons (js_set 4 sc.nd (je_cut (je_call (ok__law_grown T) hrL3 T.g__law_grown T.F__law_grown.kp T.b__law_grown tk (ja_cons (jv 0) (ja_cons (jv 3) (ja_cons (je_lst ja_nil) ja_nil))))))
      (jss_cons (js_set 5 sc.nd (je_cut (je_if (jt_cmp j_gt (je_call (ok__law_tip T) hrL1 T.g__law_tip T.F__law_tip.kp T.b__law_tip tk (ja_cons (jv 0) (ja_cons je_int ja_nil))) je_int) (je_call (ok__law_grown T) hrL3 T.g__law_grown T.F__law_grown.kp T.b__law_grown tk (ja_cons (jv 0) (ja_cons (jv 3) (ja_cons (je_call (ok__law_mixed T) hrL2 T.g__law_mixed T.F__law_mixed.kp T.b__law_mixed tk (ja_cons (jv 0) (ja_cons (je_lc rfl sc.nd (own := [("line", 6)]) (ji_rg1 T.n_range (ja_cons (je_bi j_len T.n_len boot_len (ja_cons (je_ix (jv 3) je_int) ja_nil)) ja_nil)) (blkOk_by (N := sN__law_drawn) (sc := defScope s__law_drawn) (by decide +kernel)) (fun _ _ _ _ _ => (jgw_name 6 sc.nd)) (fun _ _ _ _ _ => by exact (jts_one (jt_cmp j_nin (jv 6) (jv 4)))) (fun _ _ _ _ _ => by exact (jv 6))) ja_nil))) ja_nil)))) (je_call (ok__law_grown T) hrL3 T.g__law_grown T.F__law_grown.kp T.b__law_grown tk (ja_cons (jv 0) (ja_cons (jv 3) (ja_cons (je_sl (jv 4) (jp_some je_int) jp_none) ja_nil)))))))
      (jss_one (js_ret (je_call (ok__law_asked T) hr T.g__law_asked T.F__law_asked.kp T.b__law_asked tk (ja_cons (jv 0) (ja_cons (jv 3) (ja_cons (jv 4) (ja_cons (jv 5) ja_nil))))))))))
theorem ok__law_paths : FnA P w K mg base 9 T.f__law_paths T.d__law_paths ["crock"] m__law_paths := by
  have sc := sc__law_paths
  refine fn_def (k := 8) false T.F__law_paths sc fun cdv A outer s H E hr tk hp => ?_
  have hrL1 := hr.mono (show 1 ≤ 8 by decide)
  have hrL2 := hr.mono (show 2 ≤ 8 by decide)
  exact (jss_cons (js_set 1 sc.nd (je_cut (je_lst ja_nil)))
      (jss_cons (js_for hp rfl (ji_rg1 T.n_range (ja_cons je_int ja_nil)) (jg_name 2 sc.nd) (jss_one (js_set 1 sc.nd (je_cut (je_op j_add (jv 1) (je_lc rfl sc.nd (own := [("other", 6)]) (ji_rg2 T.n_range (ja_cons (je_op j_add (jv 2) je_int) (ja_cons je_int ja_nil))) (blkOk_by (N := sN__law_paths) (sc := defScope s__law_paths) (by decide +kernel)) (fun _ _ _ _ _ => (jgw_name 6 sc.nd)) (fun _ _ _ _ _ => by exact jts_nil) (fun _ _ _ _ _ => by exact (je_tup (ja_cons (jv 2) (ja_cons (jv 6) ja_nil))))))))))
      (jss_cons (js_set 1 sc.nd (je_call (ok__law_mixed T) hrL2 T.g__law_mixed T.F__law_mixed.kp T.b__law_mixed tk (ja_cons (jv 0) (ja_cons (jv 1) ja_nil))))
      (jss_cons (js_set 3 sc.nd (je_cut (je_tup (ja_cons (je_tup (ja_cons je_str (ja_cons je_str (ja_cons je_str (ja_cons je_str (ja_cons je_str ja_nil)))))) (ja_cons (je_ty j_tuple T.n_tuple boot_tuple (ja_cons (je_lc rfl sc.nd (own := [("at", 7)]) (ji_rg1 T.n_range (ja_cons je_int ja_nil)) (blkOk_by (N := sN__law_paths) (sc := defScope s__law_paths) (by decide +kernel)) (fun _ _ _ _ _ => (jgw_name 7 sc.nd)) (fun _ _ _ _ _ => by exact jts_nil) (fun _ _ _ _ _ => by exact (je_op j_add (je_tup (ja_cons (je_op j_add je_str (je_ty j_strOf T.n_str boot_str (ja_cons (jv 7) ja_nil))) ja_nil)) (je_ix (jv 1) (jv 7))))) ja_nil)) ja_nil)))))
      (jss_cons (js_set 4 sc.nd (je_cut (je_call (ok__law_mixed T) hrL2 T.g__law_mixed T.F__law_mixed.kp T.b__law_mixed tk (ja_cons (jv 0) (ja_cons (je_lstRg1 rfl T.n_list T.n_range je_int) ja_nil)))))
      (jss_cons (js_set 5 sc.nd (je_cut (je_tup (ja_cons (jv 4) (ja_cons (je_stT (je_tup (ja_cons (je_ix (jv 4) je_int) (ja_cons (je_ix (jv 4) je_int) (ja_cons (je_ix (jv 4) je_int) (ja_cons (je_ix (jv 4) je_int) (ja_cons (je_ix (jv 4) je_int) ja_nil)))))) (je_ix (je_tup (ja_cons je_int (ja_cons (je_op j_sub je_int je_int) ja_nil))) (je_call (ok__law_tip T) hrL1 T.g__law_tip T.F__law_tip.kp T.b__law_tip tk (ja_cons (jv 0) (ja_cons je_int ja_nil))))) ja_nil)))))
      (jss_cons (js_asg (je_cut (je_lc rfl sc.nd (own := [("way", 8)]) (ji_seq (jv 5)) (blkOk_by (N := sN__law_paths) (sc := defScope s__law_paths) (by decide +kernel)) (fun _ _ _ _ _ => (jgw_name 8 sc.nd)) (fun _ _ _ _ _ => by exact jts_nil) (fun _ _ _ _ _ => by exact (je_cut (je_ty j_tuple T.n_tuple boot_tuple (ja_cons (je_bi j_sortLT T.n_sorted boot_sorted (ja_cons (je_lc rfl sc.nd (own := [("at", 7)]) (ji_rg1 T.n_range (ja_cons je_int ja_nil)) (blkOk_by (N := sN__law_paths) (sc := ({ kind := ScopeKind.function, names := [(Str.ofString ".0", NameKind.local), (Str.ofString "way", NameKind.cell), (Str.ofString "tuple", NameKind.globalImplicit), (Str.ofString "sorted", NameKind.globalImplicit), (Str.ofString "range", NameKind.globalImplicit), (Str.ofString "rows", NameKind.cell)], isGenerator := false, isCoroutine := false } : Scope)) (by decide +kernel)) (fun _ _ _ _ _ => (jgw_name 7 sc.nd)) (fun _ _ _ _ _ => by exact jts_nil) (fun _ _ _ _ _ => by exact (je_m (j_indexD (hu65 hr)) tya_list (jv 1) (ja_cons (je_tup (ja_cons (je_bi (j_min rfl) T.n_min boot_min (ja_cons (je_ix (jv 8) (jv 7)) (ja_cons (je_ix (jv 8) (je_op j_add (jv 7) je_int)) ja_nil))) (ja_cons (je_bi (j_max rfl) T.n_max boot_max (ja_cons (je_ix (jv 8) (jv 7)) (ja_cons (je_ix (jv 8) (je_op j_add (jv 7) je_int)) ja_nil))) ja_nil))) ja_nil)))) ja_nil)) ja_nil)))))) (jg_tupL rfl (jgs_cons (jg_name 2 sc.nd) (jgs_cons (jg_name 6 sc.nd) jgs_nil))))
      (jss_one (js_ret (je_and (je_call (ok__law_asked T) hr T.g__law_asked T.F__law_asked.kp T.b__law_asked tk (ja_cons (jv 0) (ja_cons (jv 3) (ja_cons (jv 2) (ja_cons (jv 6) ja_nil))))) (je_one (je_call (ok__law_asked T) hr T.g__law_asked T.F__law_asked.kp T.b__law_asked tk (ja_cons (jv 0) (ja_cons (jv 3) (ja_cons (jv 6) (ja_cons (jv 2) ja_nil))))))))))))))))
theorem ok_law : FnA P w K mg base 10 T.f_law T.d_law ["script"] m_law := by
  have sc := sc_law
  refine fn_def (k := 9) false T.F_law sc fun cdv A outer s H E hr tk hp => ?_
  have hrL1 := hr.mono (show 1 ≤ 9 by decide)
  have hrL7 := hr.mono (show 7 ≤ 9 by decide)
  exact (jss_cons (js_set 1 sc.nd (je_call (ok__law_crock T) hrL1 T.g__law_crock T.F__law_crock.kp T.b__law_crock tk (ja_cons (jv 0) ja_nil)))
      (jss_cons (js_if (jt_not (jt_truth (je_call (ok__law_paths T) hr T.g__law_paths T.F__law_paths.kp T.b__law_paths tk (ja_cons (jv 1) ja_nil)))) (jss_one (js_ret je_bl)) jss_nil)
      (jss_cons (js_for hp rfl (ji_rg1 T.n_range (ja_cons je_int ja_nil)) (jg_name 2 sc.nd) (jss_one (js_if (jt_not (jt_truth (je_call (ok__law_drawn T) hr T.g__law_drawn T.F__law_drawn.kp T.b__law_drawn tk (ja_cons (jv 1) (ja_cons (je_op j_add je_int (je_call (ok__law_tip T) hrL1 T.g__law_tip T.F__law_tip.kp T.b__law_tip tk (ja_cons (jv 1) (ja_cons je_int ja_nil)))) (ja_cons (je_op j_add je_int (je_call (ok__law_tip T) hrL1 T.g__law_tip T.F__law_tip.kp T.b__law_tip tk (ja_cons (jv 1) (ja_cons je_int ja_nil)))) ja_nil)))))) (jss_one (js_ret je_bl)) jss_nil)))
      (jss_cons (js_set 3 sc.nd (je_tup (ja_cons (je_tup (ja_cons je_str (ja_cons je_str (ja_cons je_str (ja_cons je_str ja_nil))))) (ja_cons (je_tup (ja_cons (je_tup (ja_cons je_str (ja_cons je_int (ja_cons je_int ja_nil)))) (ja_cons (je_tup (ja_cons je_str (ja_cons je_int (ja_cons je_int ja_nil)))) (ja_cons (je_tup (ja_cons je_str (ja_cons je_int (ja_cons je_int ja_nil)))) (ja_cons (je_tup (ja_cons je_str (ja_cons je_int (ja_cons je_int ja_nil)))) (ja_cons (je_tup (ja_cons je_str (ja_cons je_int (ja_cons je_int ja_nil)))) ja_nil)))))) ja_nil))))
      (jss_cons (js_asg (je_tup (ja_cons (je_tup (ja_cons je_int (ja_cons je_int (ja_cons je_int ja_nil)))) (ja_cons (je_tup (ja_cons je_int (ja_cons je_int (ja_cons je_int ja_nil)))) ja_nil))) (jg_tup rfl (jgs_cons (jg_name 4 sc.nd) (jgs_cons (jg_name 5 sc.nd) jgs_nil))))
      (jss_cons (js_set 6 sc.nd (je_tup (ja_cons (je_call (ok_is_step_row T) hrL7 T.g_is_step_row T.F_is_step_row.kp T.b_is_step_row tk (ja_cons (jv 3) (ja_cons (jv 4) (ja_cons (jv 5) (ja_cons (je_tup (ja_cons (je_tup (ja_cons je_int (ja_cons je_int ja_nil))) (ja_cons (je_tup (ja_cons je_int (ja_cons je_int ja_nil))) ja_nil))) ja_nil))))) (ja_cons (je_call (ok_is_step_row T) hrL7 T.g_is_step_row T.F_is_step_row.kp T.b_is_step_row tk (ja_cons (jv 3) (ja_cons (jv 4) (ja_cons (jv 5) (ja_cons (je_tup (ja_cons (je_tup (ja_cons je_int (ja_cons je_int ja_nil))) (ja_cons (je_tup (ja_cons je_int (ja_cons je_int ja_nil))) ja_nil))) ja_nil))))) ja_nil))))
      (jss_cons (js_set 6 sc.nd (je_op j_add (jv 6) (je_tup (ja_cons (je_call (ok_is_step_row T) hrL7 T.g_is_step_row T.F_is_step_row.kp T.b_is_step_row tk (ja_cons (jv 3) (ja_cons (jv 4) (ja_cons (jv 5) (ja_cons (je_tup (ja_cons (je_tup (ja_cons je_int (ja_cons je_int ja_nil))) (ja_cons (je_tup (ja_cons je_int (ja_cons je_int ja_nil))) ja_nil))) ja_nil))))) (ja_cons (je_call (ok_is_step_row T) hrL7 T.g_is_step_row T.F_is_step_row.kp T.b_is_step_row tk (ja_cons (jv 3) (ja_cons (jv 4) (ja_cons (jv 5) (ja_cons (je_tup (ja_cons (je_tup (ja_cons je_int (ja_cons je_int ja_nil))) (ja_cons (je_tup (ja_cons je_int (ja_cons je_int ja_nil))) ja_nil))) ja_nil))))) (ja_cons (je_call (ok_is_step_row T) hrL7 T.g_is_step_row T.F_is_step_row.kp T.b_is_step_row tk (ja_cons (jv 3) (ja_cons (jv 4) (ja_cons (jv 4) (ja_cons (je_tup ja_nil) ja_nil))))) ja_nil))))))
      (jss_cons (js_if (jt_not (jt_truth (je_call (ok__law_same T) hrL1 T.g__law_same T.F__law_same.kp T.b__law_same tk (ja_cons (jv 6) (ja_cons (je_tup (ja_cons je_bl (ja_cons je_bl (ja_cons je_bl (ja_cons je_bl (ja_cons je_bl ja_nil)))))) ja_nil))))) (jss_one (js_ret je_bl)) jss_nil)
      (jss_one (js_ret (je_or (je_cmp j_ne (je_call (ok__law_tip T) hrL1 T.g__law_tip T.F__law_tip.kp T.b__law_tip tk (ja_cons (jv 1) (ja_cons je_int ja_nil))) je_int) (je_one (je_call (ok__law_drawn T) hr T.g__law_drawn T.F__law_drawn.kp T.b__law_drawn tk (ja_cons (jv 1) (ja_cons je_int (ja_cons je_int ja_nil))))))))))))))))
end
end G20

namespace G20
open PySem PySem.Spec
open PyProof.Rows hiding St
open L2 AB MG
def tk : TK where
  K := 3
  ok := fun t => ∃ (gs : List Int) (M : AO) (p q : Int), t = [.lst (gs.map .int), M, .lst [.loc 0, .int p, .int q]] ∧ M.low 3 = true ∧ gs.length ≤ 60
  len := fun t ⟨_, _, _, _, e, _⟩ => by rw [e]; rfl
  low := fun t ⟨gs, M, p, q, e, m, _⟩ o ho => by
    subst e
    rcases List.mem_cons.mp ho with rfl | ho
    · exact low_ints _ _
    · rcases List.mem_cons.mp ho with rfl | ho
      · exact m
      · rw [List.mem_singleton] at ho; subst ho; rfl
abbrev Tp := TpG tk
abbrev Mv := MvG tk
abbrev TL : Nat := 1
theorem finC_mv {h h1 g : AH} {v v' : PV} (_t : Tp h) (m : Mv h h1) (hv : frz h.length (h1 ++ g) v = some v') : finC h.length h (h1 ++ g) v = .ok v' h1 := finC_mvG m hv
theorem finC_mv0 {h h1 : AH} {v : PV} (_t : Tp h) (m : Mv h h1) (hv : v.low h.length = true) : finC h.length h h1 v = .ok v h1 := finC_mvG0 m hv
def hT (gs : List Int) (p q : Int) (h0 : {x : AO × AH // x.1.low 3 = true}) : AH := .lst (gs.map .int) :: h0.1.1 :: .lst [.loc 0, .int p, .int q] :: h0.1.2
theorem shape {h : AH} (t : Tp h) : ∃ gs p q h0, h = hT gs p q h0 ∧ gs.length ≤ 60 := by
  obtain ⟨gs, M, p, q, e, m, l⟩ := t
  refine ⟨gs, p, q, ⟨(M, h.drop 3), m⟩, ?_, l⟩
  calc h = h.take 3 ++ h.drop 3 := (List.take_append_drop 3 h).symm
    _ = _ := by rw [show h.take 3 = _ from e]; rfl
theorem mvT {gs gs' : List Int} {p q p' q' : Int} {h0 : {x : AO × AH // x.1.low 3 = true}} (hl : gs'.length ≤ 60) : Mv (hT gs p q h0) (hT gs' p' q' h0) := ⟨by simp [tk, hT], _, ⟨gs', h0.1.1, p', q', rfl, h0.2, hl⟩, rfl⟩
theorem tip {h : AH} (t : Tp h) {k : Int} (hk : 0 < k) (kz : k < 1073741824) : ∃ r h', m__law_tip [.loc 2, .int k] h = .ok (.int r) h' ∧ 0 ≤ r ∧ r < k ∧ Mv h h' := by
  have t' := t
  obtain ⟨gs, p, q, h0, rfl, lg⟩ := shape t'
  unfold m__law_tip b__law_tip
  let S : Option PV → ASt := fun o => [some (.loc 2), some (.int k), o]
  have i0 : ∀ gs p q, fIx (.loc 2) (.int 0) (hT gs p q h0) = .ok (.loc 0) (hT gs p q h0) := fun _ _ _ => fIx_loc rfl rfl
  have i1 : ∀ gs p q, fIx (.loc 2) (.int 1) (hT gs p q h0) = .ok (.int p) (hT gs p q h0) := fun _ _ _ => fIx_loc rfl rfl
  have i2 : ∀ gs p q, fIx (.loc 2) (.int 2) (hT gs p q h0) = .ok (.int q) (hT gs p q h0) := fun _ _ _ => fIx_loc rfl rfl
  have ln : ∀ gs p q, fnLen [.loc 0] (hT gs p q h0) = .ok (.int gs.length) (hT gs p q h0) := fun gs _ _ => by rw [fnLen_seq (seqOf_loc rfl)]; simp
  have ec : ∀ o gs p q, (aB (aOp fGt (aFn fnLen (aCons (aOp fIx (aVar 0) (aC (.int 0))) (aNil))) (aC (.int 0)))) (S o) (hT gs p q h0) = .ok (decide ((0 : Int) < gs.length)) (hT gs p q h0) := fun o gs p q =>
    aB_ok (aOp_ok (aFn_ok (aCons_ok (aOp_ok rfl rfl (i0 _ _ _)) rfl) (ln _ _ _)) rfl (fGt_i _ _ _))
  rcases List.eq_nil_or_concat gs with rfl | ⟨g, x, rfl⟩
  · have c1 := ec none [] p q
    rw [decide_eq_false (by simp)] at c1
    have mu : ∀ a : Int, fMul (.int a) (.int 93001) (hT [] p (q + 1) h0) = .ok (.int (a * 93001)) (hT [] p (q + 1) h0) := fun a => fMul_i (by omega) (by omega) _
    have mu2 : ∀ a : Int, fMul (.int a) (.int 10007) (hT [] p (q + 1) h0) = .ok (.int (a * 10007)) (hT [] p (q + 1) h0) := fun a => fMul_i (by omega) (by omega) _
    let p' : Int := (p * 93001 + (q + 1) * 10007 + 19) % 4294966997
    refine ⟨p' / 1249 % k, hT [] p' (q + 1) h0, ?_, Int.emod_nonneg _ (by omega), Int.emod_lt_of_pos _ hk, mvT (by simp)⟩
    refine (mDef_rt (σ := S none) (h1 := hT [] p' (q + 1) h0) (v := .int (p' / 1249 % k)) ?_).trans (finC_mv0 t (mvT (by simp)) rfl)
    refine sSeq_ok (σ1 := S none) (h1 := hT [] p q h0) ((sIf_f c1).trans rfl) ?_
    refine sSeq_ok (σ1 := S none) (h1 := hT [] p (q + 1) h0) (sAsg_ok (aOp_ok (aOp_ok rfl rfl (i2 _ _ _)) rfl (fAdd_i _ _ _)) (gSubL_ok (n := 2) (k := 2) (xs := [.loc 0, .int p, .int q]) rfl rfl rfl (by omega) (by simp))) ?_
    refine sSeq_ok (σ1 := S none) (h1 := hT [] p' (q + 1) h0) (sAsg_ok (aOp_ok (aFn_ok (aCons_ok (aOp_ok (aOp_ok (aOp_ok (aOp_ok rfl rfl (i1 _ _ _)) rfl (mu _)) (aOp_ok (aOp_ok rfl rfl (i2 _ _ _)) rfl (mu2 _)) (fAdd_i _ _ _)) rfl (fAdd_i _ _ _)) rfl) (fnInt_i _ _)) rfl (fMod_i (by omega) _)) (gSubL_ok (n := 2) (k := 1) (xs := [.loc 0, .int p, .int (q + 1)]) rfl rfl rfl (by omega) (by simp))) ?_
    exact sRet_ok (aOp_ok (aFn_ok (aCons_ok (aOp_ok (aOp_ok rfl rfl (i1 _ _ _)) rfl (fFdiv_i (by omega) (by omega) _)) rfl) (fnInt_i _ _)) rfl (fMod_i hk _))
  · have c1 := ec none (g.concat x) p q
    rw [List.concat_eq_append] at *
    rw [decide_eq_true (by simp)] at c1
    have lg' : g.length < 60 := by simp at lg; omega
    have pp : mPop (.loc 0) [] (hT (g ++ [x]) p q h0) = .ok (.int x) (hT g p q h0) := mPop_last (n := 0) (xs := g.map .int) (y := .int x) (by simp [hT])
    have e1 : (sSet 2 (aFn fnInt (aCons (aM isL mPop (aOp fIx (aVar 0) (aC (.int 0))) aNil) (aNil)))) (S none) (hT (g ++ [x]) p q h0) = .fin .nx (S (some (.int x))) (hT g p q h0) :=
      sSet_ok (aFn_ok (aCons_ok (aM_ok (aOp_ok rfl rfl (i0 _ _ _)) rfl rfl pp) rfl) (fnInt_i _ _))
    have ec2 : (aB (aOp fGe (aVar 2) (aVar 1))) (S (some (.int x))) (hT g p q h0) = .ok (decide (k ≤ x)) (hT g p q h0) := aB_ok (aOp_ok rfl rfl (fGe_i _ _ _))
    obtain ⟨g', hg', lg2, e2⟩ : ∃ g' : List Int, True ∧ g'.length ≤ 60 ∧ (sIf (aB (aOp fGe (aVar 2) (aVar 1))) (sExpr (aM isL mAppend (aOp fIx (aVar 0) (aC (.int 0))) (aCons (aOp fFdiv (aVar 2) (aVar 1)) (aNil)))) (sNext)) (S (some (.int x))) (hT g p q h0) = .fin .nx (S (some (.int x))) (hT g' p q h0) := by
      by_cases c : k ≤ x
      · rw [decide_eq_true c] at ec2
        refine ⟨g ++ [x / k], trivial, by simp; omega, (sIf_t ec2).trans ?_⟩
        have ap : mAppend (.loc 0) [.int (x / k)] (hT g p q h0) = .ok .non (hT (g ++ [x / k]) p q h0) := by
          rw [mAppend_ok (n := 0) (xs := g.map .int) rfl (by simp; omega)]; simp [hT]
        exact sExpr_ok (aM_ok (aOp_ok rfl rfl (i0 _ _ _)) rfl (aCons_ok (aOp_ok rfl rfl (fFdiv_i hk kz _)) rfl) ap)
      · rw [decide_eq_false c] at ec2
        exact ⟨g, trivial, by omega, (sIf_f ec2).trans rfl⟩
    refine ⟨x % k, hT g' p q h0, ?_, Int.emod_nonneg _ (by omega), Int.emod_lt_of_pos _ hk, mvT lg2⟩
    refine (mDef_rt (σ := S (some (.int x))) (h1 := hT g' p q h0) (v := .int (x % k)) ?_).trans (finC_mv0 t (mvT lg2) rfl)
    refine sSeq_rt ((sIf_t c1).trans ?_)
    exact sSeq_ok e1 (sSeq_ok e2 (sRet_ok (aOp_ok rfl rfl (fMod_i hk _))))
end G20

namespace G20
open PySem PySem.Spec
open PyProof.Rows hiding St
open L2 AB MG
theorem mixed {h : AH} (t : Tp h) {v : PV} {xs : List PV} (e : seqOf v h = some xs) (hz : xs.length ≤ 100000) (hl : PV.lows h.length xs = true) : ∃ ys h', m__law_mixed [.loc 2, v] h = .ok (.lst ys) h' ∧ ys.Perm xs ∧ Mv h h' := by
  unfold m__law_mixed b__law_mixed
  let S : ASt := [some (.loc 2), some v, some (.loc h.length), some (.loc (h.length + 1))]
  obtain ⟨ys, h', eW, pm, mv⟩ := while_rule (c := aB (aOp fGt (aFn fnLen (aCons (aVar 2) (aNil))) (aC (.int 0)))) (b := sExpr (aM isL mAppend (aVar 3) (aCons (aM isL mPop (aVar 2) (aCons (aCall 2 m__law_tip (aCons (aVar 0) (aCons (aFn fnLen (aCons (aVar 2) (aNil))) (aNil)))) (aNil))) (aNil))))
    (fun σ g => ∃ (left told : List PV) (h1 : AH), σ = S ∧ g = h1 ++ .lst left :: [.lst told] ∧ Mv h h1 ∧ (told ++ left).Perm xs)
    (fun _ g => match g[h.length]? with | some (.lst l) => l.length | _ => 0)
    (fun r => ∃ (ys : List PV) (h' : AH), r = .fin .nx S (h' ++ .lst [] :: [.lst ys]) ∧ ys.Perm xs ∧ Mv h h')
    (fun σ g ⟨left, told, h1, e1, e2, m1, pm⟩ => by
      subst e1; subst e2
      have l1 := m1.len
      have ll := pm.length_eq
      rw [List.length_append] at ll
      have ec : (aB (aOp fGt (aFn fnLen (aCons (aVar 2) (aNil))) (aC (.int 0)))) S (h1 ++ .lst left :: [.lst told]) = .ok (decide ((0 : Int) < left.length)) (h1 ++ .lst left :: [.lst told]) :=
        aB_ok (aOp_ok (aFn_ok rfl (len0 l1)) rfl (fGt_i _ _ _))
      by_cases c : left = []
      · subst c
        rw [decide_eq_false (by simp)] at ec
        exact .inl ⟨_, ec, told, h1, rfl, by simpa using pm, m1⟩
      · have cl : 0 < left.length := List.length_pos_iff.mpr c
        rw [decide_eq_true (by omega)] at ec
        obtain ⟨r, g1, ep, r0, r1, m2⟩ := tip ((t.mv m1).app (.lst left :: [.lst told])) (k := left.length) (by omega) (by omega)
        obtain ⟨h2, rfl, m3⟩ := (t.mv m1).split m2
        have l2 : h2.length = h.length := by rw [m3.len, l1]
        obtain ⟨k, rfl⟩ : ∃ k : Nat, r = k := ⟨r.toNat, by omega⟩
        have kl : k < left.length := by omega
        have ek : left[k]? = some left[k] := List.getElem?_eq_getElem kl
        have lz : left.length ≤ 1000000 := by omega
        have lz2 : told.length < 1000000 := by omega
        refine .inr ⟨_, ec, .inl ⟨S, h2 ++ .lst (left.eraseIdx k) :: [.lst (told ++ [left[k]])], .inl (sExpr_ok (aM_ok rfl (isL1 l1) (aCons_ok (aM_ok rfl (isL0 l1) (aCons_ok (aCall_ok (aCons_ok rfl (aCons_ok (aFn_ok rfl (len0 l1)) rfl)) rfl ep) rfl) (popAt0 l2 ek lz)) rfl) (ap1 l2 lz2))), ⟨left.eraseIdx k, told ++ [left[k]], h2, rfl, rfl, m1.tr m3, ?_⟩, ?_⟩⟩
        · rw [List.append_assoc]
          exact ((erase_perm ek).append_left told).trans pm
        · simp only [g0 l2, g0 l1]
          rw [List.length_eraseIdx_of_lt kl]; omega)
    (σ := S) (h := h ++ .lst xs :: [.lst []]) ⟨xs, [], h, rfl, rfl, t.rf, by simp⟩
  have l1 := mv.len
  refine ⟨ys, h', ?_, pm, mv⟩
  have low : PV.lows h.length ys = true := low_all fun x hx => belows_iff.mp hl x (pm.mem_iff.mp hx)
  refine (mDef_rt (σ := S) (h1 := h' ++ .lst [] :: [.lst ys]) (v := .loc (h.length + 1)) ?_).trans (finC_mv t mv (frz_new (by omega) (g1 l1) low))
  have eL : fnList [v] h = .ok (.loc h.length) (h ++ [.lst xs]) := fnList_s e
  refine sSeq_ok (sSet_ok (aFn_ok rfl eL)) (sSeq_ok (h1 := h ++ .lst xs :: [.lst []]) (σ1 := S) ?_ (sSeq_ok eW rfl))
  refine (sSet_ok (aLst_ok rfl (by simp))).trans ?_
  rw [snoc_app, List.length_append]
  rfl
end G20

namespace G20
open PySem PySem.Spec
open PyProof.Rows hiding St
open L2 AB MG
theorem str_small : ∀ k : Nat, k < 64 → ((toString (k : Int) : Str)).length ≤ 4 := by decide +kernel
theorem log_small {k : Nat} (h : k < 64) : (k : Int).natAbs.log2 < 1920 := by
  rw [Int.natAbs_natCast]
  by_cases c : k = 0
  · subst c; decide
  · exact (Nat.log2_lt c).mpr (Nat.lt_of_lt_of_le h (by
      calc 64 = 2 ^ 6 := rfl
        _ ≤ 2 ^ 1920 := Nat.pow_le_pow_right (by omega) (by omega)))
theorem fnStr_n {k : Nat} (hk : k < 64) (h : AH) : fnStr [.int k] h = .ok (.str (toString (k : Int))) h := by
  show (if _ then _ else _) = _
  rw [if_pos (log_small hk)]
theorem low_strs (k : Nat) (ss : List Str) : PV.lows k (ss.map PV.str) = true := low_all fun x hx => by
  obtain ⟨s, _, rfl⟩ := List.mem_map.mp hx; rfl
theorem flats_strs : ∀ ss : List Str, flats (ss.map PV.str) = some (ss.map V.str)
  | [] => rfl
  | n :: ns => by rw [List.map_cons, flats, flats_strs ns]; rfl
theorem fNin_s {x : Str} {u : PV} {ss : List Str} {h : AH} (e : seqOf u h = some (ss.map PV.str)) : ∃ b, fNin (.str x) u h = .ok (.bl b) h := by
  refine ⟨!inV (.str x) (ss.map V.str), ?_⟩
  unfold fNin
  rw [e]
  show (match flats (ss.map PV.str) with | some zs => Res.ok (PV.bl (!inV (.str x) zs)) h | none => .stuck) = _
  rw [flats_strs]
theorem lq : ("q" : Str).length = 1 := by decide
abbrev wds : List PV := [.str "", .str "a", .str "0", .str "zz9", .str "longest"]
theorem words {h : AH} (t : Tp h) {n : Nat} (hn : n ≤ 60) {hd : Str} (hh : hd.length ≤ 9) : ∃ (ss : List Str) (h' : AH), m__law_words [.loc 2, .int n, .str hd] h = .ok (.lst (ss.map .str)) h' ∧ ss.length = n ∧ Mv h h' := by
  unfold m__law_words b__law_words
  let S : Option PV → Option PV → ASt := fun o4 o5 => [some (.loc 2), some (.int n), some (.str hd), some (.loc h.length), o4, o5]
  obtain ⟨σ', g, eF, o4, o5, ss, h', rfl, rfl, ls, mv⟩ := for_rg (g := gN 4) (b := sSeq (sSet 5 (aOp fAdd (aVar 2) (aOp fIx (aTup (aCons (aC (.str "")) (aCons (aC (.str "a")) (aCons (aC (.str "0")) (aCons (aC (.str "zz9")) (aCons (aC (.str "longest")) (aNil))))))) (aCall 2 m__law_tip (aCons (aVar 0) (aCons (aC (.int 5)) (aNil))))))) (sExpr (aM isL mAppend (aVar 3) (aCons (aIf (aB (aOp fNin (aVar 5) (aVar 3))) (aVar 5) (aOp fAdd (aOp fAdd (aVar 2) (aC (.str "q"))) (aFn fnStr (aCons (aVar 4) (aNil))))) (aNil))))) 0 n
    (fun i σ g => ∃ (o4 o5 : Option PV) (ss : List Str) (h1 : AH), σ = S o4 o5 ∧ g = h1 ++ [.lst (ss.map .str)] ∧ ss.length = i ∧ Mv h h1) (σ := S none none) (h := h ++ [.lst ([].map PV.str)]) ⟨none, none, [], h, rfl, rfl, rfl, t.rf⟩
    (fun i σ g hi ⟨o4, o5, ss, h1, e1, e2, ls, m1⟩ => by
      subst e1; subst e2
      have l1 := m1.len
      obtain ⟨r, f1, ep, r0, r1, m2⟩ := tip ((t.mv m1).app [.lst (ss.map .str)]) (k := 5) (by omega) (by omega)
      obtain ⟨h2, rfl, m3⟩ := (t.mv m1).split m2
      have l2 : h2.length = h.length := by rw [m3.len, l1]
      obtain ⟨a, la, fa⟩ : ∃ a : Str, a.length ≤ 7 ∧ ∀ g, fIx (.tup wds) (.int r) g = .ok (.str a) g := by
        have : r = 0 ∨ r = 1 ∨ r = 2 ∨ r = 3 ∨ r = 4 := by omega
        rcases this with rfl | rfl | rfl | rfl | rfl
        · exact ⟨"", by decide, fun g => rfl⟩
        · exact ⟨"a", by decide, fun g => rfl⟩
        · exact ⟨"0", by decide, fun g => rfl⟩
        · exact ⟨"zz9", by decide, fun g => rfl⟩
        · exact ⟨"longest", by decide, fun g => rfl⟩
      have s1 := str_small i (by omega)
      have ei : (0 : Int) + (i : Nat) = (i : Nat) := Int.zero_add _
      rw [ei]
      have e5 : (sSet 5 (aOp fAdd (aVar 2) (aOp fIx (aTup (aCons (aC (.str "")) (aCons (aC (.str "a")) (aCons (aC (.str "0")) (aCons (aC (.str "zz9")) (aCons (aC (.str "longest")) (aNil))))))) (aCall 2 m__law_tip (aCons (aVar 0) (aCons (aC (.int 5)) (aNil))))))) (S (some (.int (i : Nat))) o5) (h1 ++ [.lst (ss.map .str)]) = .fin .nx (S (some (.int (i : Nat))) (some (.str (hd ++ a)))) (h2 ++ [.lst (ss.map .str)]) :=
        sSet_ok (aOp_ok rfl (aOp_ok (aTup_ok (xs := wds) rfl (by decide)) (aCall_ok rfl rfl ep) (fa _)) (fAdd_s (by omega)))
      obtain ⟨b, eb⟩ := fNin_s (x := hd ++ a) (u := .loc h.length) (ss := ss) (h := h2 ++ [.lst (ss.map .str)]) (seqOf_loc (g0 l2))
      have ec : (aB (aOp fNin (aVar 5) (aVar 3))) (S (some (.int (i : Nat))) (some (.str (hd ++ a)))) (h2 ++ [.lst (ss.map .str)]) = .ok b (h2 ++ [.lst (ss.map .str)]) := aB_ok (aOp_ok rfl rfl eb)
      obtain ⟨y, ey⟩ : ∃ y : Str, (aIf (aB (aOp fNin (aVar 5) (aVar 3))) (aVar 5) (aOp fAdd (aOp fAdd (aVar 2) (aC (.str "q"))) (aFn fnStr (aCons (aVar 4) (aNil))))) (S (some (.int (i : Nat))) (some (.str (hd ++ a)))) (h2 ++ [.lst (ss.map .str)]) = .ok (.str y) (h2 ++ [.lst (ss.map .str)]) := by
        cases b with
        | true => exact ⟨hd ++ a, (aIf_t ec).trans rfl⟩
        | false => exact ⟨hd ++ "q" ++ (toString (i : Int) : Str), (aIf_f ec).trans (aOp_ok (aOp_ok rfl rfl (fAdd_s (by have := lq; omega))) (aFn_ok rfl (fnStr_n (by omega) _)) (fAdd_s (by have := lq; simp only [Str.length_append]; omega)))⟩
      have eap : mAppend (.loc h.length) [.str y] (h2 ++ [.lst (ss.map .str)]) = .ok .non (h2 ++ [.lst ((ss ++ [y]).map .str)]) := by
        rw [ap0 l2 (by simp; omega)]; simp
      refine ⟨S (some (.int (i : Nat))) o5, h1 ++ [.lst (ss.map .str)], S (some (.int (i : Nat))) (some (.str (hd ++ a))), h2 ++ [.lst ((ss ++ [y]).map .str)], rfl, by { refine sSeq_ok e5 ?_; exact sExpr_ok (aM_ok rfl (isL0 l2) (aCons_ok ey rfl) eap) }, _, _, ss ++ [y], h2, rfl, rfl, by simp [ls], m1.tr m3⟩
      )
  have l1 := mv.len
  refine ⟨ss, h', ?_, ls, mv⟩
  refine (mDef_rt (σ := S o4 o5) (h1 := h' ++ [.lst (ss.map .str)]) (v := .loc h.length) ?_).trans (finC_mv t mv (frz_new (Nat.le_refl _) (g0 l1) (low_strs _ _)))
  exact sSeq_ok (sSet_ok (aLst_ok rfl (by simp))) (sSeq_ok (sFor_ok (aItR1_ok (j := n) rfl (by omega) (by omega)) eF) rfl)
end G20

namespace G20
open PySem PySem.Spec
open PyProof.Rows hiding St
open L2 AB MG
def sgA (n more : Nat) (k : Nat) (hb : Int) (o5 o6 o7 o8 : Option PV) : ASt := [some (.loc 2), some (.int n), some (.int more), some (.loc k), some (.int hb), o5, o6, o7, o8, none, none]
structure EI (n : Nat) (ends : List (Nat × Nat)) (m : Nat) : Prop where
  lt : ∀ e ∈ ends, e.1 < n ∧ e.2 < n
  cn : ∀ p, p ≤ m → Cn ends 0 p
theorem EI.add {n m : Nat} {ends : List (Nat × Nat)} (i : EI n ends m) {e : Nat × Nat} (h : e.1 < n ∧ e.2 < n) : EI n (ends ++ [e]) m :=
  ⟨fun x hx => by
    rcases List.mem_append.mp hx with hx | hx
    · exact i.lt x hx
    · rw [List.mem_singleton] at hx; subst hx; exact h, fun p hp => (i.cn p hp).mono fun e he => List.mem_append_left _ he⟩
abbrev bdA : AS := sExpr (aM isL mAppend (aVar 3) (aCons (aTup (aCons (aVar 5) (aCons (aOp fIx (aTup (aCons (aCall 2 m__law_tip (aCons (aVar 0) (aCons (aVar 5) (aNil)))) (aCons (aOp fSub (aVar 5) (aC (.int 1))) (aCons (aC (.int 0)) (aNil))))) (aVar 4)) (aNil)))) (aNil)))
theorem net_A {h : AH} (t : Tp h) (n more : Nat) (hb : Int) (hb0 : 0 ≤ hb) (hb3 : hb < 3) (hn : 0 < n) (hn2 : n ≤ 10) : ∃ (o5 : Option PV) (ends : List (Nat × Nat)) (h1 : AH), forA (itRg 1 (n - 1)) (gN 5) bdA (n - 1) 0 (sgA n more h.length hb none none none none) (h ++ [.lst []]) = .fin .nx (sgA n more h.length hb o5 none none none) (h1 ++ [.lst (ends.map pairV)]) ∧ Mv h h1 ∧ ends.length = n - 1 ∧ EI n ends (n - 1) := by
  obtain ⟨σ', g, eF, o5, ends, h', rfl, rfl, mv, ls, ei⟩ := for_rg (g := gN 5) (b := bdA) 1 (n - 1)
    (fun i σ g => ∃ (o5 : Option PV) (ends : List (Nat × Nat)) (h1 : AH), σ = sgA n more h.length hb o5 none none none ∧ g = h1 ++ [.lst (ends.map pairV)] ∧ Mv h h1 ∧ ends.length = i ∧ EI n ends i) (σ := sgA n more h.length hb none none none none) (h := h ++ [.lst ([].map pairV)]) ⟨none, [], h, rfl, rfl, t.rf, rfl, by simp, fun p hp => (show 0 = p by omega) ▸ Cn.rf 0⟩
    (fun i σ g hi ⟨o5, ends, h1, e1, e2, m1, ls, ei⟩ => by
      subst e1; subst e2
      have l1 := m1.len
      have eat : (1 : Int) + (i : Nat) = ((i + 1 : Nat) : Int) := by omega
      rw [eat]
      obtain ⟨r, f1, ep, r0, r1, m2⟩ := tip ((t.mv m1).app [.lst (ends.map pairV)]) (k := ((i + 1 : Nat) : Int)) (by omega) (by omega)
      obtain ⟨h2, rfl, m3⟩ := (t.mv m1).split m2
      have l2 : h2.length = h.length := by rw [m3.len, l1]
      obtain ⟨a, la, fa⟩ : ∃ a : Nat, a ≤ i ∧ ∀ g, fIx (.tup [.int r, .int (((i + 1 : Nat) : Int) - 1), .int 0]) (.int hb) g = .ok (.int a) g := by
        have : hb = 0 ∨ hb = 1 ∨ hb = 2 := by omega
        rcases this with rfl | rfl | rfl
        · exact ⟨r.toNat, by omega, fun g => by rw [show ((r.toNat : Nat) : Int) = r by omega]; rfl⟩
        · exact ⟨i, by omega, fun g => by rw [show ((i : Nat) : Int) = ((i + 1 : Nat) : Int) - 1 by omega]; rfl⟩
        · exact ⟨0, by omega, fun g => rfl⟩
      have eap : mAppend (.loc h.length) [.tup [.int ((i + 1 : Nat) : Int), .int a]] (h2 ++ [.lst (ends.map pairV)]) = .ok .non (h2 ++ [.lst ((ends ++ [(i + 1, a)]).map pairV)]) := by
        rw [ap0 l2 (by simp; omega)]; simp [pairV]
      have eb : bdA (sgA n more h.length hb (some (.int ((i + 1 : Nat) : Int))) none none none) (h1 ++ [.lst (ends.map pairV)]) = .fin .nx (sgA n more h.length hb (some (.int ((i + 1 : Nat) : Int))) none none none) (h2 ++ [.lst ((ends ++ [(i + 1, a)]).map pairV)]) := by
        refine sExpr_ok (aM_ok rfl (isL0 l1) (aCons_ok (aTup_ok (aCons_ok rfl (aCons_ok (aOp_ok (aTup_ok (aCons_ok (aCall_ok rfl rfl ep) rfl) (by simp)) rfl (fa _)) rfl)) (by simp)) rfl) eap)
      refine ⟨_, _, _, _, rfl, eb, _, ends ++ [(i + 1, a)], h2, rfl, rfl, m1.tr m3, by simp [ls], (ei.add (e := (i + 1, a)) ⟨by show i + 1 < n; omega, by show a < n; omega⟩).lt, fun p hp => ?_⟩
      by_cases c : p ≤ i
      · exact (ei.cn p c).mono fun e he => List.mem_append_left _ he
      · have : p = i + 1 := by omega
        subst this
        exact .bw ((ei.cn a la).mono fun e he => List.mem_append_left _ he) (by simp))
  exact ⟨o5, ends, h', eF, mv, ls, ei⟩
abbrev bdB : AS := (sSeq (sSet 7 (aCall 2 m__law_tip (aCons (aVar 0) (aCons (aVar 1) (aNil))))) (sSeq (sSet 8 (aOp fMod (aFn fnInt (aCons (aOp fAdd (aOp fAdd (aVar 7) (aC (.int 1))) (aCall 2 m__law_tip (aCons (aVar 0) (aCons (aOp fSub (aVar 1) (aC (.int 1))) (aNil))))) (aNil))) (aVar 1))) (sExpr (aM isL mAppend (aVar 3) (aCons (aIf (aB (aOp fGt (aCall 2 m__law_tip (aCons (aVar 0) (aCons (aC (.int 4)) (aNil)))) (aC (.int 0)))) (aTup (aCons (aVar 7) (aCons (aVar 8) (aNil)))) (aOp fIx (aVar 3) (aCall 2 m__law_tip (aCons (aVar 0) (aCons (aFn fnLen (aCons (aVar 3) (aNil))) (aNil)))))) (aNil))))))
theorem net_B {h : AH} (t : Tp h) (n more : Nat) (hb : Int) (o5 : Option PV) (hn : 2 ≤ n) (hn2 : n ≤ 10) (hm : more ≤ 100) {h1 : AH} (mv : Mv h h1) {E : List (Nat × Nat)} (lE : E.length = n - 1) (eE : EI n E (n - 1)) : ∃ (o6 o7 o8 : Option PV) (ends : List (Nat × Nat)) (h2 : AH), forA (itRg 0 more) (gN 6) bdB more 0 (sgA n more h.length hb o5 none none none) (h1 ++ [.lst (E.map pairV)]) = .fin .nx (sgA n more h.length hb o5 o6 o7 o8) (h2 ++ [.lst (ends.map pairV)]) ∧ Mv h h2 ∧ ends.length = n - 1 + more ∧ EI n ends (n - 1) := by
  obtain ⟨σ', g, eF, o6, o7, o8, ends, h', rfl, rfl, mv, ls, ei⟩ := for_rg (g := gN 6) (b := bdB) 0 more
    (fun i σ g => ∃ (o6 o7 o8 : Option PV) (ends : List (Nat × Nat)) (h1 : AH), σ = sgA n more h.length hb o5 o6 o7 o8 ∧ g = h1 ++ [.lst (ends.map pairV)] ∧ Mv h h1 ∧ ends.length = n - 1 + i ∧ EI n ends (n - 1)) (σ := sgA n more h.length hb o5 none none none) (h := h1 ++ [.lst (E.map pairV)]) ⟨none, none, none, E, h1, rfl, rfl, mv, lE, eE⟩
    (fun i σ g hi ⟨o6, o7, o8, ends, h1, e1, e2, m1, ls, ei⟩ => by
      subst e1; subst e2
      have t1 := t.mv m1
      obtain ⟨r, f1, ep, r0, r1, m2⟩ := tip (t1.app [.lst (ends.map pairV)]) (k := n) (by omega) (by omega)
      obtain ⟨h2, rfl, m3⟩ := t1.split m2
      have t2 := t1.mv m3
      obtain ⟨s, f2, ep2, s0, s1, m4⟩ := tip (t2.app [.lst (ends.map pairV)]) (k := (n : Int) - 1) (by omega) (by omega)
      obtain ⟨h3, rfl, m5⟩ := t2.split m4
      have t3 := t2.mv m5
      obtain ⟨u, f3, ep3, u0, u1, m6⟩ := tip (t3.app [.lst (ends.map pairV)]) (k := 4) (by omega) (by omega)
      obtain ⟨h4, rfl, m7⟩ := t3.split m6
      have t4 := t3.mv m7
      have l4 : h4.length = h.length := by rw [m7.len, m5.len, m3.len, m1.len]
      obtain ⟨a, rfl⟩ : ∃ a : Nat, r = a := ⟨r.toNat, by omega⟩
      obtain ⟨b, eb⟩ : ∃ b : Nat, ((a : Int) + 1 + s) % n = b := ⟨(((a : Int) + 1 + s) % n).toNat, by have := Int.emod_nonneg ((a : Int) + 1 + s) (b := n) (by omega); omega⟩
      have bn : b < n := by have := Int.emod_lt_of_pos ((a : Int) + 1 + s) (b := n) (by omega); omega
      let o6' : Option PV := some (.int ((0 : Int) + (i : Nat)))
      have e7 : (sSet 7 (aCall 2 m__law_tip (aCons (aVar 0) (aCons (aVar 1) (aNil))))) (sgA n more h.length hb o5 o6' o7 o8) (h1 ++ [.lst (ends.map pairV)]) = .fin .nx (sgA n more h.length hb o5 o6' (some (.int a)) o8) (h2 ++ [.lst (ends.map pairV)]) := sSet_ok (aCall_ok rfl rfl ep)
      have e8 : (sSet 8 (aOp fMod (aFn fnInt (aCons (aOp fAdd (aOp fAdd (aVar 7) (aC (.int 1))) (aCall 2 m__law_tip (aCons (aVar 0) (aCons (aOp fSub (aVar 1) (aC (.int 1))) (aNil))))) (aNil))) (aVar 1))) (sgA n more h.length hb o5 o6' (some (.int a)) o8) (h2 ++ [.lst (ends.map pairV)]) = .fin .nx (sgA n more h.length hb o5 o6' (some (.int a)) (some (.int b))) (h3 ++ [.lst (ends.map pairV)]) := by
        refine sSet_ok (aOp_ok (aFn_ok (aCons_ok (aOp_ok (aOp_ok rfl rfl (fAdd_i _ _ _)) (aCall_ok (aCons_ok rfl (aCons_ok (aOp_ok rfl rfl (fSub_i _ _ _)) rfl)) rfl ep2) (fAdd_i _ _ _)) rfl) (fnInt_i _ _)) rfl ?_)
        rw [fMod_i (by omega), eb]
      have ec : (aB (aOp fGt (aCall 2 m__law_tip (aCons (aVar 0) (aCons (aC (.int 4)) (aNil)))) (aC (.int 0)))) (sgA n more h.length hb o5 o6' (some (.int a)) (some (.int b))) (h3 ++ [.lst (ends.map pairV)]) = .ok (decide ((0 : Int) < u)) (h4 ++ [.lst (ends.map pairV)]) := aB_ok (aOp_ok (aCall_ok rfl rfl ep3) rfl (fGt_i _ _ _))
      obtain ⟨x, h5, ex, hx, m9⟩ : ∃ (x : Nat × Nat) (h5 : AH), (aIf (aB (aOp fGt (aCall 2 m__law_tip (aCons (aVar 0) (aCons (aC (.int 4)) (aNil)))) (aC (.int 0)))) (aTup (aCons (aVar 7) (aCons (aVar 8) (aNil)))) (aOp fIx (aVar 3) (aCall 2 m__law_tip (aCons (aVar 0) (aCons (aFn fnLen (aCons (aVar 3) (aNil))) (aNil)))))) (sgA n more h.length hb o5 o6' (some (.int a)) (some (.int b))) (h3 ++ [.lst (ends.map pairV)]) = .ok (pairV x) (h5 ++ [.lst (ends.map pairV)]) ∧ (x.1 < n ∧ x.2 < n) ∧ Mv h4 h5 := by
        by_cases c : (0 : Int) < u
        · rw [decide_eq_true c] at ec
          exact ⟨(a, b), h4, (aIf_t ec).trans (aTup_ok rfl (by simp)), ⟨by show a < n; omega, bn⟩, t4.rf⟩
        · rw [decide_eq_false c] at ec
          obtain ⟨v, f4, ep4, v0, v1, m8⟩ := tip (t4.app [.lst (ends.map pairV)]) (k := ends.length) (by omega) (by omega)
          obtain ⟨h5, rfl, m9⟩ := t4.split m8
          have l5 : h5.length = h.length := by rw [m9.len, l4]
          obtain ⟨w, rfl⟩ : ∃ w : Nat, v = w := ⟨v.toNat, by omega⟩
          have wl : w < ends.length := by omega
          have ew : fIx (.loc h.length) (.int w) (h5 ++ [.lst (ends.map pairV)]) = .ok (pairV ends[w]) (h5 ++ [.lst (ends.map pairV)]) := fIx_loc (g0 l5) (atI_nat (by rw [List.getElem?_map, List.getElem?_eq_getElem wl]; rfl))
          have eln : fnLen [.loc h.length] (h4 ++ [.lst (ends.map pairV)]) = .ok (.int ends.length) (h4 ++ [.lst (ends.map pairV)]) := by rw [len0 l4, List.length_map]
          exact ⟨ends[w], h5, (aIf_f ec).trans (aOp_ok rfl (aCall_ok (aCons_ok rfl (aCons_ok (aFn_ok rfl eln) rfl)) rfl ep4) ew), ei.lt _ (List.getElem_mem wl), m9⟩
      have l5 : h5.length = h.length := by rw [m9.len, l4]
      have eap : mAppend (.loc h.length) [pairV x] (h5 ++ [.lst (ends.map pairV)]) = .ok .non (h5 ++ [.lst ((ends ++ [x]).map pairV)]) := by
        rw [ap0 l5 (by simp; omega)]; simp
      have l3 : h3.length = h.length := by rw [m5.len, m3.len, m1.len]
      have e9 : (sExpr (aM isL mAppend (aVar 3) (aCons (aIf (aB (aOp fGt (aCall 2 m__law_tip (aCons (aVar 0) (aCons (aC (.int 4)) (aNil)))) (aC (.int 0)))) (aTup (aCons (aVar 7) (aCons (aVar 8) (aNil)))) (aOp fIx (aVar 3) (aCall 2 m__law_tip (aCons (aVar 0) (aCons (aFn fnLen (aCons (aVar 3) (aNil))) (aNil)))))) (aNil)))) (sgA n more h.length hb o5 o6' (some (.int a)) (some (.int b))) (h3 ++ [.lst (ends.map pairV)]) = .fin .nx (sgA n more h.length hb o5 o6' (some (.int a)) (some (.int b))) (h5 ++ [.lst ((ends ++ [x]).map pairV)]) :=
        sExpr_ok (aM_ok rfl (isL0 l3) (aCons_ok ex rfl) eap)
      refine ⟨sgA n more h.length hb o5 o6' o7 o8, _, _, _, rfl, by { refine sSeq_ok e7 ?_; refine sSeq_ok e8 ?_; exact e9 }, _, _, _, ends ++ [x], h5, rfl, rfl, (((m1.tr m3).tr m5).tr m7).tr m9, by simp; omega, ei.add hx⟩)
  exact ⟨o6, o7, o8, ends, h', eF, mv, ls, ei⟩
end G20

namespace G20
open PySem PySem.Spec
open PyProof.Rows hiding St
open L2 AB MG
def sgC (n more : Nat) (k : Nat) (hb : Int) (o5 o6 o7 o8 o9 o10 : Option PV) : ASt := [some (.loc 2), some (.int n), some (.int more), some (.loc k), some (.int hb), o5, o6, o7, o8, o9, o10]
def Sw (rs sw : List (Nat × Nat)) : Prop := ∀ (j : Nat) (e : Nat × Nat), sw[j]? = some e → ∃ x, rs[j]? = some x ∧ (e = x ∨ e = (x.2, x.1))
theorem Sw.lt {n : Nat} {rs sw : List (Nat × Nat)} (s : Sw rs sw) (lt : ∀ e ∈ rs, e.1 < n ∧ e.2 < n) : ∀ e ∈ sw, e.1 < n ∧ e.2 < n := fun e he => by
  obtain ⟨j, hj⟩ := List.getElem?_of_mem he
  obtain ⟨x, hx, rfl | rfl⟩ := s j e hj
  · exact lt _ (List.mem_of_getElem? hx)
  · have := lt _ (List.mem_of_getElem? hx); exact ⟨this.2, this.1⟩
theorem Sw.cn {rs sw : List (Nat × Nat)} (s : Sw rs sw) (l : sw.length = rs.length) {a b : Nat} (c : Cn rs a b) : Cn sw a b := by
  have ed : ∀ e ∈ rs, e ∈ sw ∨ (e.2, e.1) ∈ sw := fun e he => by
    obtain ⟨j, hj⟩ := List.getElem?_of_mem he
    have jl := (List.getElem?_eq_some_iff.mp hj).1
    have q : sw[j]? = some sw[j] := List.getElem?_eq_getElem (by omega)
    obtain ⟨x, hx, h | h⟩ := s j _ q
    · rw [hj] at hx; cases hx; exact .inl (h ▸ List.getElem_mem _)
    · rw [hj] at hx; cases hx; exact .inr (h ▸ List.getElem_mem _)
  induction c with
  | rf => exact .rf _
  | fw _ m ih => exact (ed _ m).elim (fun q => .fw ih q) (fun q => .bw ih q)
  | bw _ m ih => exact (ed _ m).elim (fun q => .bw ih q) (fun q => .fw ih q)
theorem turned {h : AH} (t : Tp h) (E : AO) (n more k : Nat) (hb : Int) (o5 o6 o7 o8 o9 : Option PV) (rs : List (Nat × Nat)) (lz : rs.length ≤ 1000) :
    ∃ sw h1, (aCut (aLc (aItS (aVar 10)) [7, 8] (gTup' 2 (gCons' (gN 7) (gCons' (gN 8) (gNil')))) (tYes') (aIf (aB (aOp fEq (aCall 2 m__law_tip (aCons (aVar 0) (aCons (aC (.int 2)) (aNil)))) (aC (.int 0)))) (aTup (aCons (aVar 7) (aCons (aVar 8) (aNil)))) (aTup (aCons (aVar 8) (aCons (aVar 7) (aNil))))))) (sgC n more k hb o5 o6 o7 o8 o9 (some (.lst (rs.map pairV)))) (h ++ [E]) = .ok (.lst (sw.map pairV)) (h1 ++ [E]) ∧ Mv h h1 ∧ sw.length = rs.length ∧ Sw rs sw := by
  let σ := sgC n more k hb o5 o6 o7 o8 o9 (some (.lst (rs.map pairV)))
  obtain ⟨A, eA, nA, xA⟩ := aItS_lst (aVar 10) σ (h ++ [E]) (h ++ [E]) (rs.map pairV) rfl
  obtain ⟨acc, h3, el, ⟨sw, h1, ea, eg, m1, sw1⟩, la⟩ := aLc_tapeI (vs := [7, 8]) (g := gTup' 2 (gCons' (gN 7) (gCons' (gN 8) (gNil')))) (e := aIf (aB (aOp fEq (aCall 2 m__law_tip (aCons (aVar 0) (aCons (aC (.int 2)) (aNil)))) (aC (.int 0)))) (aTup (aCons (aVar 7) (aCons (aVar 8) (aNil)))) (aTup (aCons (aVar 8) (aCons (aVar 7) (aNil))))) eA (rs.map pairV)
    (fun acc g => ∃ (sw : List (Nat × Nat)) (h1 : AH), acc = sw.map pairV ∧ g = h1 ++ [E] ∧ Mv h h1 ∧ Sw rs sw) (by omega) (by simp; omega) (fun i g _ => xA i g) ⟨[], h, rfl, rfl, t.rf, fun j e he => by simp at he⟩ (fun acc g ⟨_, h1, _, e, m, _⟩ => by rw [e]; simp [m.len])
    (fun i x ex acc h2 ⟨sw, h1, ea, eg, m1, s1⟩ hi => by
      subst ea; subst eg
      rw [List.getElem?_map] at ex
      obtain ⟨p, ep, rfl⟩ := Option.map_eq_some_iff.mp ex
      obtain ⟨r, g1, et, r0, r1, m2⟩ := tip (((t.mv m1).app [E]).app [.lst (sw.map pairV)]) (k := 2) (by omega) (by omega)
      obtain ⟨g2, rfl, m3⟩ := ((t.mv m1).app [E]).split m2
      obtain ⟨h2, rfl, m4⟩ := (t.mv m1).split m3
      let σ1 : ASt := sgC n more k hb o5 o6 (some (.int p.1)) (some (.int p.2)) o9 (some (.lst (rs.map pairV)))
      have ec : (aB (aOp fEq (aCall 2 m__law_tip (aCons (aVar 0) (aCons (aC (.int 2)) (aNil)))) (aC (.int 0)))) σ1 (h1 ++ [E] ++ [AO.lst (sw.map pairV)]) = .ok (decide (r = 0)) (h2 ++ [E] ++ [AO.lst (sw.map pairV)]) := aB_ok (aOp_ok (aCall_ok rfl rfl et) rfl (fEq_i _ _ _))
      obtain ⟨y, ey, hy⟩ : ∃ y : Nat × Nat, (aIf (aB (aOp fEq (aCall 2 m__law_tip (aCons (aVar 0) (aCons (aC (.int 2)) (aNil)))) (aC (.int 0)))) (aTup (aCons (aVar 7) (aCons (aVar 8) (aNil)))) (aTup (aCons (aVar 8) (aCons (aVar 7) (aNil))))) σ1 (h1 ++ [E] ++ [AO.lst (sw.map pairV)]) = .ok (pairV y) (h2 ++ [E] ++ [AO.lst (sw.map pairV)]) ∧ (y = p ∨ y = (p.2, p.1)) := by
        by_cases c : r = 0
        · rw [decide_eq_true c] at ec
          exact ⟨p, (aIf_t ec).trans (aTup_ok rfl (by simp)), .inl rfl⟩
        · rw [decide_eq_false c] at ec
          exact ⟨(p.2, p.1), (aIf_f ec).trans (aTup_ok rfl (by simp)), .inr rfl⟩
      refine ⟨σ1, pairV y, h2 ++ [E], rfl, ey, sw ++ [y], h2, by simp, rfl, m1.tr m4, fun j e he => ?_⟩
      have ls : sw.length = i := by simpa using hi
      by_cases c : j < sw.length
      · rw [List.getElem?_append_left c] at he; exact s1 j e he
      · have : j = sw.length := by have := (List.getElem?_eq_some_iff.mp he).1; simp at this; omega
        subst this
        rw [List.getElem?_append_right (Nat.le_refl _), Nat.sub_self] at he
        cases he
        exact ⟨p, by rw [ls]; exact ep, hy⟩)
  subst ea; subst eg
  refine ⟨sw, h1, (aCut_ok el).trans (finC_mv (t.app [E]) (m1.app [E]) (frz_new (Nat.le_refl _) (g0 (by simp [m1.len])) (low_pairs _ _))), m1, by simpa using la, sw1⟩
theorem net {h : AH} (t : Tp h) {n more : Nat} (hn : 2 ≤ n) (hn2 : n ≤ 10) (hm : n + more ≤ 21) : ∃ (ns : List Str) (L : List (Str × Nat × Nat)) (h' : AH), m__law_net [.loc 2, .int n, .int more] h = .ok (netV ns L) h' ∧ Net ns L ∧ Mv h h' := by
  unfold m__law_net b__law_net
  obtain ⟨hb, f1, eh, hb0, hb1, mh⟩ := tip (t.app [.lst []]) (k := 3) (by omega) (by omega)
  obtain ⟨h1, rfl, m1⟩ := t.split mh
  have t1 := t.mv m1
  have l1 := m1.len
  obtain ⟨o5, E, hA, eA, mA, lE, eE⟩ := net_A t1 n more hb hb0 hb1 (by omega) hn2
  obtain ⟨o6, o7, o8, ends, hB, eB, mB, ln, ei⟩ := net_B t1 n more hb o5 hn hn2 (by omega) mA lE eE
  have tB := t1.mv mB
  have lB := mB.len
  obtain ⟨ss, f2, es, lss, m2⟩ := words (tB.app [.lst (ends.map pairV)]) (n := ends.length) (by omega) (hd := "l") (by decide)
  obtain ⟨hC, rfl, mC⟩ := tB.split m2
  have tC := tB.mv mC
  have lC := mC.len
  obtain ⟨ys, f3, ey, py, m3⟩ := mixed (tC.app [.lst (ends.map pairV)]) (v := .loc h1.length) (xs := ends.map pairV) (seqOf_loc (g0 (by omega))) (by simp; omega) (low_pairs _ _)
  obtain ⟨hD, rfl, mD⟩ := tC.split m3
  have tD := tC.mv mD
  have lD := mD.len
  obtain ⟨rs, rfl, prs⟩ := perm_inv (f := pairV) (g := unP) unP_pair py
  have lrs := prs.length_eq
  obtain ⟨sw, hE, eS, mE, lsw, sw1⟩ := turned tD (.lst (ends.map pairV)) n more h1.length hb o5 o6 o7 o8 (some (.lst (ss.map .str))) rs (by omega)
  have tE := tD.mv mE
  have lE2 := mE.len
  obtain ⟨ps, f4, ep, lps, m4⟩ := words (tE.app [.lst (ends.map pairV)]) (n := n) (by omega) (hd := "p") (by decide)
  obtain ⟨hF, rfl, mF⟩ := tE.split m4
  have lF := mF.len
  let L : List (Str × Nat × Nat) := (List.range sw.length).map fun k => (ss.getD k "", sw.getD k (0, 0))
  have eL : L.map (·.2) = sw := by
    show ((List.range sw.length).map _).map _ = sw
    rw [List.map_map]; exact getD_range sw (0, 0)
  let F : PV → PV := fun x => match x with
    | .int k => lineV (ss.getD k.toNat "", sw.getD k.toNat (0, 0))
    | x => x
  let σ := sgC n more h1.length hb o5 o6 o7 o8 (some (.lst (ss.map .str))) (some (.lst (sw.map pairV)))
  have el : (aLc (aItR1 (aCons (aFn fnLen (aCons (aVar 10) (aNil))) (aNil))) [5] (gN 5) (tYes') (aOp fAdd (aTup (aCons (aOp fIx (aVar 9) (aVar 5)) (aNil))) (aOp fIx (aVar 10) (aVar 5)))) σ (hF ++ [AO.lst (ends.map pairV)]) = .ok (.loc (hF ++ [AO.lst (ends.map pairV)]).length) ((hF ++ [AO.lst (ends.map pairV)]) ++ [AO.lst (((List.range sw.length).map nI).map F)]) := by
    refine aLc_map (a := itRg 0 sw.length) (h1 := hF ++ [AO.lst (ends.map pairV)]) ?_ ((List.range sw.length).map nI) F (by simp [itRg]) (by simp; omega) (fun i acc _ => itRg_nxt _ _ _) fun x hx acc => ?_
    · have : fnLen [.lst (sw.map pairV)] (hF ++ [AO.lst (ends.map pairV)]) = .ok (.int sw.length) (hF ++ [AO.lst (ends.map pairV)]) := by rw [fnLen_seq (seqOf_lst _ _)]; simp
      exact aItR1_ok (j := sw.length) (aCons_ok (aFn_ok rfl this) rfl) (by omega) (by omega)
    · obtain ⟨k, hk, rfl⟩ := List.mem_map.mp hx
      have kl : k < sw.length := by simpa using hk
      have k2 : k < ss.length := by omega
      refine ⟨sgC n more h1.length hb (some (nI k)) o6 o7 o8 (some (.lst (ss.map .str))) (some (.lst (sw.map pairV))), rfl, rfl, ?_⟩
      have i1 : ∀ g, fIx (.lst (ss.map .str)) (nI k) g = .ok (.str (ss.getD k "")) g := fun g => fIx_lst (atI_nat (by rw [List.getElem?_map, List.getElem?_eq_getElem k2, List.getD_eq_getElem?_getD, List.getElem?_eq_getElem k2]; rfl))
      have i2 : ∀ g, fIx (.lst (sw.map pairV)) (nI k) g = .ok (pairV (sw.getD k (0, 0))) g := fun g => fIx_lst (atI_nat (by rw [List.getElem?_map, List.getElem?_eq_getElem kl, List.getD_eq_getElem?_getD, List.getElem?_eq_getElem kl]; rfl))
      exact aOp_ok (aTup_ok (aCons_ok (aOp_ok rfl rfl (i1 _)) rfl) (by simp)) (aOp_ok rfl rfl (i2 _)) (fAdd_t (by simp))
  have em : ((List.range sw.length).map nI).map F = L.map lineV := by
    rw [List.map_map, List.map_map]; rfl
  rw [em] at el
  have mT : Mv h hF := ((((m1.tr mB).tr mC).tr mD).tr mE).tr mF
  refine ⟨ps, L, hF, ?_, ⟨by omega, fun l hl => ?_, fun p hp => ?_, by omega, by show ((List.range sw.length).map _).length ≤ 20; simp; omega⟩, mT⟩
  · refine (mDef_rt (σ := σ) (h1 := hF ++ (AO.lst (ends.map pairV) :: [AO.lst (L.map lineV)])) (v := netV ps L) ?_).trans (finC_mv t mT (frz_below (low_net _ _ _)))
    refine sSeq_ok (σ1 := [some (.loc 2), some (.int n), some (.int more), some (.loc h1.length), none, none, none, none, none, none, none]) (h1 := h ++ [AO.lst []]) (by rw [l1]; exact sSet_ok (aLst_ok rfl (by simp))) ?_
    refine sSeq_ok (σ1 := sgA n more h1.length hb none none none none) (h1 := h1 ++ [AO.lst []]) (sSet_ok (aCall_ok rfl rfl eh)) ?_
    refine sSeq_ok (sFor_ok (aItR2_ok (i := 1) (j := n) rfl (by omega) (by omega) (by omega) (by omega)) ((show _ = _ by rw [show ((n : Int) - 1).toNat = n - 1 by omega]; rfl).trans eA)) ?_
    refine sSeq_ok (sFor_ok (aItR1_ok (j := more) rfl (by omega) (by omega)) eB) ?_
    have eln : fnLen [.loc h1.length] (hB ++ [AO.lst (ends.map pairV)]) = .ok (.int ends.length) (hB ++ [AO.lst (ends.map pairV)]) := by rw [len0 lB, List.length_map]
    refine sSeq_ok (σ1 := sgC n more h1.length hb o5 o6 o7 o8 (some (.lst (ss.map .str))) none) (h1 := hC ++ [AO.lst (ends.map pairV)]) (sSet_ok (aCall_ok (aCons_ok rfl (aCons_ok (aFn_ok rfl eln) rfl)) rfl es)) ?_
    refine sSeq_ok (σ1 := sgC n more h1.length hb o5 o6 o7 o8 (some (.lst (ss.map .str))) (some (.lst (rs.map pairV)))) (h1 := hD ++ [AO.lst (ends.map pairV)]) (sSet_ok (aCall_ok rfl rfl ey)) ?_
    refine sSeq_ok (σ1 := σ) (h1 := hE ++ [AO.lst (ends.map pairV)]) (sSet_ok eS) ?_
    have s1 : hF ++ (.lst (ends.map pairV) :: [AO.lst (L.map lineV)]) = hF ++ [AO.lst (ends.map pairV)] ++ [AO.lst (L.map lineV)] := by simp
    rw [s1]
    exact sRet_ok (aTup_ok (aCons_ok (aFn_ok (aCons_ok (aCall_ok rfl rfl ep) rfl) rfl) (aCons_ok (aFn_ok (aCons_ok el rfl) (fnTuple_s (seqOf_loc (getLast_app _ _)))) rfl)) (by simp))
  · have : l.2 ∈ sw := by rw [← eL]; exact List.mem_map_of_mem hl
    rw [lps]
    exact sw1.lt (fun e he => ei.lt e (prs.mem_iff.mp he)) _ this
  · rw [eL]
    refine sw1.cn lsw ?_
    exact (ei.cn p (by omega)).mono fun e he => prs.mem_iff.mpr he
end G20

namespace G20
open PySem PySem.Spec
open PyProof.Rows hiding St
open L2 AB MG
def edg (L : List (Str × Nat × Nat)) (k : Nat) : Nat × Nat := (L.getD k ("", 0, 0)).2
theorem netV_low (ns : List Str) (L : List (Str × Nat × Nat)) (k : Nat) : (netV ns L).low k = true := by
  simp only [netV, PV.low, PV.lows, Bool.true_and, Bool.and_true, Bool.and_eq_true]
  exact ⟨low_all fun x hx => by obtain ⟨l, _, rfl⟩ := List.mem_map.mp hx; rfl, low_all fun x hx => by obtain ⟨l, _, rfl⟩ := List.mem_map.mp hx; rfl⟩
theorem net_1 (ns : List Str) (L : List (Str × Nat × Nat)) (h : AH) : fIx (netV ns L) (.int 1) h = .ok (.tup (L.map lineV)) h := fIx_tup rfl
theorem net_0 (ns : List Str) (L : List (Str × Nat × Nat)) (h : AH) : fIx (netV ns L) (.int 0) h = .ok (.tup (ns.map .str)) h := fIx_tup rfl
theorem net_k {L : List (Str × Nat × Nat)} {k : Nat} (hk : k < L.length) (h : AH) : fIx (.tup (L.map lineV)) (.int k) h = .ok (.tup [.str (L.getD k ("", 0, 0)).1, .int (edg L k).1, .int (edg L k).2]) h :=
  fIx_tup (atI_nat (by rw [List.getElem?_map, List.getElem?_eq_getElem hk]; simp [edg, lineV, hk]))
theorem ends_of {ns : List Str} {L : List (Str × Nat × Nat)} {k : Nat} (hk : k < L.length) (h : AH) : m_ends_of [netV ns L, .int k] h = .ok (.tup [.int (edg L k).1, .int (edg L k).2]) h := by
  unfold m_ends_of b_ends_of
  refine (mDef_rt (σ := [some (netV ns L), some (.int k)]) (h1 := h) (v := .tup [.int (edg L k).1, .int (edg L k).2]) ?_).trans (finC_same rfl)
  refine sRet_ok ?_
  have e1 : (aOp fIx (aOp fIx (aVar 0) (aC (.int 1))) (aVar 1)) [some (netV ns L), some (.int k)] h = .ok (.tup [.str (L.getD k ("", 0, 0)).1, .int (edg L k).1, .int (edg L k).2]) h := aOp_ok (aOp_ok rfl rfl (net_1 _ _ _)) rfl (net_k hk h)
  show (aSl _ _ _) [some (netV ns L), some (.int k)] h = _
  rw [aSl_eq, e1]
  rfl
def mrg (a b : Nat) (s : Nat) : Nat := if s = b then a else s
theorem merged {h : AH} {k : Nat} {hs : List Nat} {a b : Nat} (e : h[k]? = some (.lst (hs.map nI))) (ha : a < hs.length) (hb : b < hs.length) (hz : hs.length ≤ 1000) : ∃ t, m_merged [.loc k, .int a, .int b] h = .ok (.bl t) (h.set k (.lst ((mergeF hs a b).map nI))) := by
  unfold m_merged b_merged
  have hk := (List.getElem?_eq_some_iff.mp e).1
  have ga : hs[a]? = some (hs.getD a 0) := by simp [ha]
  have gb : hs[b]? = some (hs.getD b 0) := by simp [hb]
  have fa : fIx (.loc k) (.int a) h = .ok (.int (hs.getD a 0 : Nat)) h := fIx_loc e (nI_get ga)
  have fb : fIx (.loc k) (.int b) h = .ok (.int (hs.getD b 0 : Nat)) h := fIx_loc e (nI_get gb)
  generalize hx : hs.getD a 0 = x at *
  generalize hy : hs.getD b 0 = y at *
  let σ : ASt := [some (.loc k), some (.int a), some (.int b), some (.int x), some (.int y), none, none]
  have s1 : ∀ (r : AS), (sSeq (sSet 3 (aOp fIx (aVar 0) (aVar 1))) (sSeq (sSet 4 (aOp fIx (aVar 0) (aVar 2))) r)) (startA 7 [.loc k, .int a, .int b]) h = r σ h := fun r =>
    sSeq_ok (sSet_ok (aOp_ok rfl rfl fa)) (sSeq_ok (sSet_ok (aOp_ok rfl rfl fb)) rfl)
  have fin : ∀ (hs' : List Nat) (g : AH) (t : Bool), finC h.length h (h.set k (.lst (hs'.map nI)) ++ g) (.bl t) = .ok (.bl t) (h.set k (.lst (hs'.map nI))) := fun hs' g t => by
    rw [finC_ok (v' := .bl t) (fun n hn => ?_) rfl]
    · congr 1
      rw [List.take_append_of_le_length (by simp), List.take_of_length_le (by simp)]
    · rw [List.getElem?_append_left (by simpa using hn), List.getElem?_set]
      by_cases c : k = n
      · subst c; rw [if_pos rfl, if_pos hk]; exact .inr ⟨_, rfl, low_nI _ _⟩
      · rw [if_neg c]; exact .inl rfl
  by_cases c : x = y
  · have em : mergeF hs a b = hs := by unfold mergeF; rw [if_pos (by rw [hx, hy]; exact c)]
    have eh : h.set k (.lst (hs.map nI)) = h := by
      obtain ⟨l, e'⟩ := List.getElem?_eq_some_iff.mp e
      rw [← e']; simp
    have f := fin hs [] false
    rw [List.append_nil, eh] at f
    refine ⟨false, ?_⟩
    rw [em, eh]
    refine (mDef_rt (σ := σ) (h1 := h) (v := .bl false) ?_).trans f
    rw [s1, sSeq_rt]
    rw [sIf_t (h1 := h) (aB_ok (b := true) (aOp_ok rfl rfl (by rw [fEq_i]; simp [c])))]
    rfl
  · have em : mergeF hs a b = hs.map (mrg x y) := by unfold mergeF mrg; rw [if_neg (by rw [hx, hy]; exact c), hx, hy]
    refine ⟨true, ?_⟩
    rw [em]
    have loop := for_live (g := gTup' 2 (gCons' (gN 5) (gCons' (gN 6) (gNil')))) (b := sIf (aB (aOp fEq (aVar 6) (aVar 4))) (sAsg (aVar 3) (gSubL (aVar 0) (aVar 5))) (sNext)) h.length (enP 0 (hs.map nI))
      (fun i σ' g => ∃ (o5 o6 : Option PV) (cur : List Nat), σ' = [some (.loc k), some (.int a), some (.int b), some (.int x), some (.int y), o5, o6] ∧ g = h.set k (.lst (cur.map nI)) ++ [.lst (enP 0 (hs.map nI))] ∧ ∀ j, cur[j]? = (hs[j]?).map fun s => if j < i then mrg x y s else s)
      (σ := σ) (h := h ++ [.lst (enP 0 (hs.map nI))]) ⟨none, none, hs, rfl, by
        obtain ⟨l, e'⟩ := List.getElem?_eq_some_iff.mp e
        rw [← e']; simp, fun j => by simp⟩
      (fun i σ' g ⟨o5, o6, cur, e1, e2, _⟩ => by rw [e2, List.getElem?_append_right (by simp)]; simp)
      (fun i v σ' g ev ⟨o5, o6, cur, e1, e2, hc⟩ => by
        subst e1; subst e2
        have il : i < hs.length := by have := (List.getElem?_eq_some_iff.mp ev).1; rw [enP_len] at this; simpa using this
        have gi : hs[i]? = some hs[i] := List.getElem?_eq_getElem il
        have e3 := enP_get 0 (hs.map nI) i (nI hs[i]) (by rw [List.getElem?_map, gi]; rfl)
        rw [e3] at ev
        cases ev
        have cl : cur.length = hs.length := by
          have h1 := hc hs.length
          rw [List.getElem?_eq_none (Nat.le_refl hs.length)] at h1
          have h2 : cur.length ≤ hs.length := List.getElem?_eq_none_iff.mp h1
          rcases Nat.lt_or_ge cur.length hs.length with q | q
          · have h3 := hc cur.length
            rw [List.getElem?_eq_none (Nat.le_refl _), List.getElem?_eq_getElem q] at h3
            cases h3
          · omega
        have ek : (h.set k (.lst (cur.map nI)) ++ [AO.lst (enP 0 (hs.map nI))])[k]? = some (.lst (cur.map nI)) := by
          rw [List.getElem?_append_left (by simpa using hk), List.getElem?_set]; simp [hk]
        refine ⟨[some (.loc k), some (.int a), some (.int b), some (.int x), some (.int y), some (.int ((0 + i : Nat) : Int)), some (.int hs[i])], h.set k (.lst (cur.map nI)) ++ [.lst (enP 0 (hs.map nI))], ?_⟩
        by_cases d : hs[i] = y
        · refine ⟨[some (.loc k), some (.int a), some (.int b), some (.int x), some (.int y), some (.int ((0 + i : Nat) : Int)), some (.int hs[i])], h.set k (.lst ((cur.set i x).map nI)) ++ [.lst (enP 0 (hs.map nI))], rfl, ?_, some (.int ((0 + i : Nat) : Int)), some (.int hs[i]), cur.set i x, rfl, rfl, fun j => ?_⟩
          · rw [sIf_t (h1 := h.set k (.lst (cur.map nI)) ++ [.lst (enP 0 (hs.map nI))]) (aB_ok (b := true) (aOp_ok rfl rfl (by rw [fEq_i]; simp [d])))]
            refine sAsg_ok rfl ?_
            rw [gSubL_ok (n := k) (k := ((0 + i : Nat) : Int)) (xs := cur.map nI) rfl rfl ek (by omega) (by simp; omega), set_app (by simpa using hk), List.set_set]
            congr 5
            rw [List.map_set]
            congr 1; omega
          · rw [List.getElem?_set]
            by_cases q : i = j
            · subst q
              rw [if_pos rfl, if_pos (by omega), gi]
              simp [mrg, d]
            · rw [if_neg q, hc j]
              congr 1; funext s
              by_cases w : j < i
              · rw [if_pos w, if_pos (by omega)]
              · rw [if_neg w, if_neg (by omega)]
        · refine ⟨[some (.loc k), some (.int a), some (.int b), some (.int x), some (.int y), some (.int ((0 + i : Nat) : Int)), some (.int hs[i])], h.set k (.lst (cur.map nI)) ++ [.lst (enP 0 (hs.map nI))], rfl, ?_, some (.int ((0 + i : Nat) : Int)), some (.int hs[i]), cur, rfl, rfl, fun j => ?_⟩
          · rw [sIf_f (h1 := h.set k (.lst (cur.map nI)) ++ [.lst (enP 0 (hs.map nI))]) (aB_ok (b := false) (aOp_ok rfl rfl (by rw [fEq_i]; simp; omega)))]
            rfl
          · rw [hc j]
            by_cases q : i = j
            · subst q
              rw [gi]
              simp [mrg, d]
            · congr 1; funext s
              by_cases w : j < i
              · rw [if_pos w, if_pos (by omega)]
              · rw [if_neg w, if_neg (by omega)])
    obtain ⟨σ', g, eF, o5, o6, cur, rfl, rfl, hc⟩ := loop
    have ec : cur = hs.map (mrg x y) := List.ext_getElem? fun j => by
      rw [hc j, List.getElem?_map, enP_len]
      by_cases q : j < hs.length
      · rw [List.getElem?_eq_getElem q]; simp [q]
      · rw [List.getElem?_eq_none (by omega)]; rfl
    subst ec
    refine (mDef_rt (σ := [some (.loc k), some (.int a), some (.int b), some (.int x), some (.int y), o5, o6]) (h1 := h.set k (.lst ((hs.map (mrg x y)).map nI)) ++ [.lst (enP 0 (hs.map nI))]) (v := .bl true) ?_).trans (fin _ _ _)
    rw [s1]
    refine sSeq_ok (σ1 := σ) (h1 := h) ?_ ?_
    · rw [sIf_f (h1 := h) (aB_ok (b := false) (aOp_ok rfl rfl (by rw [fEq_i]; simp; omega)))]; rfl
    have eS : aItS (aLstEn (aVar 0)) σ h = .ok (itLive (.loc h.length) (enP 0 (hs.map nI)).length) (h ++ [.lst (enP 0 (hs.map nI))]) := by
      have q1 : aLstEn (aVar 0) σ h = .ok (.loc h.length) (h ++ [.lst (enP 0 (hs.map nI))]) := by
        unfold aLstEn
        show (match lstOf (.loc k) h with | some xs => new (.lst (enP 0 xs)) h | none => .stuck) = _
        rw [lstOf_loc e]; rfl
      unfold aItS
      rw [q1, Res.bind_ok]
      show itL (.loc h.length) _ = _
      unfold itL
      rw [lstOf_loc (getLast_app _ _)]
    refine sSeq_ok (sFor_ok eS eF) rfl
end G20

namespace G20
open PySem PySem.Spec
open PyProof.Rows hiding St
open L2 AB MG
def LtN (n : Nat) (L : List (Str × Nat × Nat)) : Prop := ∀ l ∈ L, l.2.1 < n ∧ l.2.2 < n
theorem edg_mem {L : List (Str × Nat × Nat)} {k : Nat} (hk : k < L.length) : edg L k ∈ L.map (·.2) := by
  unfold edg
  rw [List.getD_eq_getElem?_getD, List.getElem?_eq_getElem hk]
  exact List.mem_map.mpr ⟨_, List.getElem_mem hk, rfl⟩
theorem edg_lt {n : Nat} {L : List (Str × Nat × Nat)} (lt : LtN n L) {k : Nat} (hk : k < L.length) : (edg L k).1 < n ∧ (edg L k).2 < n := by
  obtain ⟨l, hl, e⟩ := List.mem_map.mp (edg_mem hk)
  rw [← e]; exact lt l hl
theorem edgs_lt {n : Nat} {L : List (Str × Nat × Nat)} (lt : LtN n L) {ks : List Nat} (hk : ∀ k ∈ ks, k < L.length) : ∀ e ∈ ks.map (edg L), e.1 < n ∧ e.2 < n := fun e he => by
  obtain ⟨k, hk', rfl⟩ := List.mem_map.mp he
  exact edg_lt lt (hk k hk')
theorem fold_len (F : List (Nat × Nat)) : ∀ hs : List Nat, (F.foldl (fun hs e => mergeF hs e.1 e.2) hs).length = hs.length := by
  induction F with
  | nil => intro _; rfl
  | cons e F ih => intro hs; rw [List.foldl_cons, ih, mergeF_len]
theorem homesF_len (n : Nat) (E : List (Nat × Nat)) : (homesF n E).length = n := by unfold homesF; rw [fold_len]; simp
theorem low_tupn (k : Nat) (ks : List Nat) : (PV.tup (ks.map nI)).low k = true := low_nI _ _
theorem lenT {xs : List PV} {n : Nat} (hn : xs.length = n) (h : AH) : fnLen [.tup xs] h = .ok (.int n) h := by rw [fnLen_seq (seqOf_tup _ _), hn]
theorem homes_by {ns : List Str} {L : List (Str × Nat × Nat)} (lt : LtN ns.length L) (n10 : ns.length ≤ 10) {ks : List Nat} (hk : ∀ k ∈ ks, k < L.length) (h : AH) :
    m_homes_by [netV ns L, .tup (ks.map nI)] h = .ok (.lst ((homesF ns.length (ks.map (edg L))).map nI)) h := by
  unfold m_homes_by b_homes_by
  have loop := for_vals (g := gN 3) (b := sSeq (sAsg (aCall 2 m_ends_of (aCons (aVar 0) (aCons (aVar 3) (aNil)))) (gTup' 2 (gCons' (gN 4) (gCons' (gN 5) (gNil'))))) (sExpr (aCall 3 m_merged (aCons (aVar 2) (aCons (aVar 4) (aCons (aVar 5) (aNil))))))) (ks.map nI)
    (fun i σ g => ∃ o3 o4 o5 : Option PV, σ = [some (netV ns L), some (.tup (ks.map nI)), some (.loc h.length), o3, o4, o5] ∧ g = h ++ [.lst ((((ks.take i).map (edg L)).foldl (fun hs e => mergeF hs e.1 e.2) (List.range ns.length)).map nI)])
    (σ := [some (netV ns L), some (.tup (ks.map nI)), some (.loc h.length), none, none, none]) (h := h ++ [.lst ((List.range ns.length).map nI)]) ⟨none, none, none, rfl, by simp⟩
    (fun i x σ g ex ⟨o3, o4, o5, e1, e2⟩ => by
      subst e1; subst e2
      obtain ⟨k, hk1, rfl⟩ : ∃ k, ks[i]? = some k ∧ x = nI k := by
        rw [List.getElem?_map] at ex
        cases c : ks[i]? with
        | none => rw [c] at ex; cases ex
        | some k => rw [c] at ex; cases ex; exact ⟨k, rfl, rfl⟩
      have kl := hk k (List.mem_of_getElem? hk1)
      obtain ⟨ea, eb⟩ := edg_lt lt kl
      generalize hcur : ((ks.take i).map (edg L)).foldl (fun hs e => mergeF hs e.1 e.2) (List.range ns.length) = cur
      have cl : cur.length = ns.length := by rw [← hcur, fold_len]; simp
      obtain ⟨t, em⟩ := merged (h := h ++ [.lst (cur.map nI)]) (k := h.length) (hs := cur) (a := (edg L k).1) (b := (edg L k).2) (getLast_app _ _) (by omega) (by omega) (by omega)
      rw [set_last] at em
      have et : ((ks.take (i + 1)).map (edg L)).foldl (fun hs e => mergeF hs e.1 e.2) (List.range ns.length) = mergeF cur (edg L k).1 (edg L k).2 := by
        rw [List.take_add_one, hk1, List.map_append, List.foldl_append, hcur]; rfl
      refine ⟨[some (netV ns L), some (.tup (ks.map nI)), some (.loc h.length), some (nI k), o4, o5], h ++ [.lst (cur.map nI)], [some (netV ns L), some (.tup (ks.map nI)), some (.loc h.length), some (nI k), some (.int (edg L k).1), some (.int (edg L k).2)], h ++ [.lst ((mergeF cur (edg L k).1 (edg L k).2).map nI)], rfl, ?_, some (nI k), some (.int (edg L k).1), some (.int (edg L k).2), rfl, by rw [et]⟩
      exact sSeq_ok (sAsg_ok (aCall_ok rfl rfl (ends_of kl _)) rfl) (sExpr_ok (aCall_ok rfl rfl em)))
  obtain ⟨σ', g, eF, o3, o4, o5, rfl, rfl⟩ := loop
  rw [List.length_map, List.take_length] at eF
  refine (mDef_rt (σ := [some (netV ns L), some (.tup (ks.map nI)), some (.loc h.length), o3, o4, o5]) (h1 := h ++ [.lst ((homesF ns.length (ks.map (edg L))).map nI)]) (v := .loc h.length) ?_).trans (finC_ext (frz_new (Nat.le_refl _) (getLast_app _ _) (low_nI _ _)))
  refine sSeq_ok (sSet_ok (aLstRg1_ok (n := ns.length) (aFn_ok (aCons_ok (aOp_ok rfl rfl (net_0 _ _ _)) rfl) (lenT (by simp) _)) (by omega))) ?_
  refine sSeq_ok (σ1 := [some (netV ns L), some (.tup (ks.map nI)), some (.loc h.length), o3, o4, o5]) (h1 := h ++ [.lst ((homesF ns.length (ks.map (edg L))).map nI)]) (sFor_ok (aItS_tup (aVar 1) _ _ _ (ks.map nI) rfl) ?_) rfl
  show forA (itVals (ks.map nI)) _ _ (ks.map nI).length 0 _ _ = _
  rw [List.length_map]
  exact eF
theorem all_lines {ns : List Str} {L : List (Str × Nat × Nat)} (l20 : L.length ≤ 20) (h : AH) : m_all_lines [netV ns L] h = .ok (.tup ((List.range L.length).map nI)) h := by
  unfold m_all_lines b_all_lines
  refine (mDef_rt (σ := [some (netV ns L)]) (h1 := h) (v := .tup ((List.range L.length).map nI)) ?_).trans (finC_same (low_tupn _ _))
  exact sRet_ok (aTupRg1_ok (aFn_ok (aCons_ok (aOp_ok rfl rfl (net_1 _ _ _)) rfl) (lenT (by simp) _)) (by omega))
theorem dedI_same : ∀ (ns : List Int) (x : Int), (∀ y ∈ ns, y = x) → (ns.foldl (fun s k => if s.any (· == k) then s else s ++ [k]) [x]) = [x]
  | [], _, _ => rfl
  | y :: ns, x, h => by
    have : y = x := h y (by simp)
    subst this
    rw [List.foldl_cons]
    simp only [List.any_cons, BEq.rfl, Bool.true_or, if_true]
    exact dedI_same ns y fun z hz => h z (by simp [hz])
theorem dedI_one {ns : List Int} {x : Int} (ne : ns ≠ []) (h : ∀ y ∈ ns, y = x) : dedI ns = [x] := by
  cases ns with
  | nil => exact absurd rfl ne
  | cons y ns =>
    have : y = x := h y (by simp)
    subst this
    show ns.foldl _ _ = _
    exact dedI_same ns y fun z hz => h z (by simp [hz])
theorem hangs {ns : List Str} {L : List (Str × Nat × Nat)} (N : Net ns L) (h : AH) : m_hangs_together [netV ns L, .tup ((List.range L.length).map nI)] h = .ok (.bl true) h := by
  unfold m_hangs_together b_hangs_together
  refine (mDef_rt (σ := [some (netV ns L), some (.tup ((List.range L.length).map nI))]) (h1 := h) (v := .bl true) ?_).trans (finC_same rfl)
  have hk : ∀ k ∈ List.range L.length, k < L.length := fun k hk => by simpa using hk
  have hb := homes_by (ns := ns) (L := L) N.lt N.n10 hk h
  generalize hH : homesF ns.length ((List.range L.length).map (edg L)) = H at hb
  have all : ∀ y ∈ H.map (fun n : Nat => (n : Int)), y = (H.getD 0 0 : Nat) := fun y hy => by
    obtain ⟨z, hz, rfl⟩ := List.mem_map.mp hy
    obtain ⟨p, hp, e⟩ := List.getElem_of_mem hz
    have inv := homesF_inv (n := ns.length) (edgs_lt N.lt hk)
    rw [hH] at inv
    have c := N.cn p (by rw [← inv.len]; exact hp)
    have c' : Cn ((List.range L.length).map (edg L)) 0 p := c.mono fun e he => by
      obtain ⟨k, hk1, hk2⟩ := List.getElem_of_mem he
      rw [List.length_map] at hk1
      refine List.mem_map.mpr ⟨k, by simpa using hk1, ?_⟩
      rw [← hk2]; simp [edg, hk1]
    have q := c'.agree (fun a => H.getD a 0) inv.one
    rw [q, List.getD_eq_getElem?_getD, List.getElem?_eq_getElem hp, e]; rfl
  have ne : H.map (fun n : Nat => (n : Int)) ≠ [] := fun e => by
    have q := congrArg List.length e
    rw [List.length_map, ← hH, homesF_len, List.length_nil] at q
    have := N.pos
    omega
  have hl : H.length ≤ 10 := by rw [← hH, homesF_len]; exact N.n10
  refine sRet_ok (aOp_ok (x := .int 1) (h1 := h) ?_ rfl (fEq_i _ _ _))
  show (aLenSet _) _ h = _
  unfold aLenSet
  have q := aCall_ok (n := 2) (m := m_homes_by) (l := aCons (aVar 0) (aCons (aVar 1) aNil)) (σ := startA 2 [netV ns L, .tup ((List.range L.length).map nI)]) (h := h) rfl rfl hb
  rw [q, Res.bind_ok, nI_map]
  show (match (some _ : Option (List PV)).bind intsOf with | some ns => _ | none => _) = _
  rw [Option.bind_some, intsOf_map]
  dsimp only
  rw [dedI_one ne all]
  exact if_pos (by simp; omega)
theorem need {ns : List Str} {L : List (Str × Nat × Nat)} (N : Net ns L) (h : AH) : m_need_together [netV ns L] h = .ok .non h := by
  unfold m_need_together b_need_together
  refine (mDef_nx (σ := [some (netV ns L)]) (h1 := h) ?_).trans (finC_same rfl)
  exact (sIf_f (h1 := h) (tNot_ok (b := true) (aTr_ok (aCall_ok (aCons_ok rfl (aCons_ok (aCall_ok rfl rfl (all_lines N.l20 h)) rfl)) rfl (hangs N h))))).trans rfl
theorem filt_nI (P : Nat → Bool) (Q : PV → Bool) (h : ∀ k, Q (nI k) = P k) (ks : List Nat) : (ks.map nI).filter Q = (ks.filter P).map nI := by
  rw [List.filter_map]
  congr 1
  exact List.filter_congr fun k _ => h k
def neq (k : Nat) (x : PV) : Bool := match x with
  | .int i => !decide (i = k)
  | _ => false
end G20


/-! MW: growing a tree by labels; searching ways -/
namespace MG
section
variable {e : Nat → Nat × Nat}
structure LI (e : Nat → Nat × Nat) (n : Nat) (done tr hs : List Nat) : Prop where
  len : hs.length = n
  lt : ∀ k ∈ done, (e k).1 < n ∧ (e k).2 < n
  one : ∀ k ∈ done, hs.getD (e k).1 0 = hs.getD (e k).2 0
  two : ∀ a b, a < n → b < n → hs.getD a 0 = hs.getD b 0 → Jn e tr a b
  sub : ∀ k ∈ tr, k ∈ done
  fst : Fst e tr
  nd : tr.Nodup
theorem LI.start (n : Nat) : LI e n [] [] (List.range n) := ⟨by simp, by simp, by simp, fun a b ha hb h => by
    have e1 : (List.range n).getD a 0 = a := by simp [ha]
    have e2 : (List.range n).getD b 0 = b := by simp [hb]
    rw [e1, e2] at h
    subst h; exact .rf _, by simp, Fst.nil, by simp⟩
theorem LI.eq {n : Nat} {done tr hs : List Nat} (i : LI e n done tr hs) {a b : Nat} (j : Jn e tr a b) : hs.getD a 0 = hs.getD b 0 :=
  Cn.agree (fun p => hs.getD p 0) (fun p hp => by
    obtain ⟨k, hk, rfl⟩ := List.mem_map.mp hp
    exact i.one k (i.sub k hk)) j
theorem LI.skip {n : Nat} {done tr hs : List Nat} (i : LI e n done tr hs) {k : Nat} (la : (e k).1 < n) (lb : (e k).2 < n) (h : hs.getD (e k).1 0 = hs.getD (e k).2 0) : LI e n (done ++ [k]) tr hs :=
  ⟨i.len, fun j hj => by
    rcases List.mem_append.mp hj with hj | hj
    · exact i.lt j hj
    · rw [List.mem_singleton] at hj; subst hj; exact ⟨la, lb⟩, fun j hj => by
    rcases List.mem_append.mp hj with hj | hj
    · exact i.one j hj
    · rw [List.mem_singleton] at hj; subst hj; exact h, i.two, fun j hj => List.mem_append_left _ (i.sub j hj), i.fst, i.nd⟩
theorem LI.join {n : Nat} {done tr hs : List Nat} (i : LI e n done tr hs) {k : Nat} (la : (e k).1 < n) (lb : (e k).2 < n) (ne : hs.getD (e k).1 0 ≠ hs.getD (e k).2 0) {m : Nat} (hm : m = hs.getD (e k).1 0 ∨ m = hs.getD (e k).2 0) {f : Nat → Nat}
    (hf : ∀ s, f s = if s = hs.getD (e k).1 0 ∨ s = hs.getD (e k).2 0 then m else s) : LI e n (done ++ [k]) (tr ++ [k]) (hs.map f) := by
  have nj : ¬ Jn e tr (e k).1 (e k).2 := fun c => ne (i.eq c)
  have g : ∀ p, p < n → (hs.map f).getD p 0 = f (hs.getD p 0) := fun p hp => by
    have : p < hs.length := by rw [i.len]; exact hp
    simp [List.getD_eq_getElem?_getD, this]
  have up : ∀ {x y}, Jn e tr x y → Jn e (tr ++ [k]) x y := fun x => x.mono fun j hj => List.mem_append_left _ hj
  have kk : Jn e (tr ++ [k]) (e k).1 (e k).2 := Jn.line (by simp)
  refine ⟨by simp [i.len], fun j hj => by
    rcases List.mem_append.mp hj with hj | hj
    · exact i.lt j hj
    · rw [List.mem_singleton] at hj; subst hj; exact ⟨la, lb⟩, fun j hj => ?_, fun a b ha hb h => ?_, fun j hj => ?_, i.fst.add nj, ?_⟩
  · by_cases cj : j ∈ done
    · rw [g _ (i.lt j cj).1, g _ (i.lt j cj).2, i.one j cj]
    · have : j = k := by
        rcases List.mem_append.mp hj with hj | hj
        · exact absurd hj cj
        · exact List.mem_singleton.mp hj
      subst this
      rw [g _ la, g _ lb, hf, hf, if_pos (.inl rfl), if_pos (.inr rfl)]
  · rw [g a ha, g b hb, hf, hf] at h
    have toA : ∀ p, p < n → (hs.getD p 0 = hs.getD (e k).1 0 ∨ hs.getD p 0 = hs.getD (e k).2 0) → Jn e (tr ++ [k]) p (e k).1 := fun p hp c => by
      rcases c with c | c
      · exact up (i.two p _ hp la c)
      · exact (up (i.two p _ hp lb c)).tr kk.sm
    split at h
    · rename_i c1
      split at h
      · rename_i c2; exact (toA a ha c1).tr (toA b hb c2).sm
      · rename_i c2
        refine absurd ?_ c2
        rw [← h]; exact hm
    · rename_i c1
      split at h
      · refine absurd ?_ c1
        rw [h]; exact hm
      · exact up (i.two a b ha hb h)
  · rcases List.mem_append.mp hj with hj | hj
    · exact List.mem_append_left _ (i.sub j hj)
    · exact List.mem_append_right _ hj
  · rw [List.nodup_append]
    refine ⟨i.nd, by simp, fun a ha b hb c => ?_⟩
    rw [List.mem_singleton] at hb
    subst hb; subst c
    exact nj (Jn.line ha)
theorem LI.all {n : Nat} {done tr hs : List Nat} (i : LI e n done tr hs) {E : List (Nat × Nat)} (c : ∀ x ∈ E, ∃ k ∈ done, e k = x) {a b : Nat} (ha : a < n) (hb : b < n) (j : Cn E a b) : Jn e tr a b :=
  i.two a b ha hb (Cn.agree (fun p => hs.getD p 0) (fun x hx => by
    obtain ⟨k, hk, rfl⟩ := c x hx
    exact i.one k hk) j)
structure Srch (e : Nat → Nat × Nat) (ks : List Nat) (a : Nat) (found : List Nat) (W : Nat → List Nat) : Prop where
  st : a ∈ found
  wa : W a = []
  nd : found.Nodup
  way : ∀ p ∈ found, Way e ks a (W p) p ∧ (W p).Nodup ∧ ∀ k ∈ W p, (e k).1 ∈ found ∧ (e k).2 ∈ found
theorem Srch.start (ks : List Nat) (a : Nat) : Srch e ks a [a] (fun _ => []) := ⟨by simp, rfl, by simp, fun p hp => by
  rw [List.mem_singleton] at hp; subst hp
  exact ⟨.nl _, by simp, by simp⟩⟩
def putW (W : Nat → List Nat) (far : Nat) (p : List Nat) : Nat → List Nat := fun q => if q = far then p else W q
theorem Srch.step {ks : List Nat} {a : Nat} {found : List Nat} {W : Nat → List Nat} (s : Srch e ks a found W) {here far k : Nat} (hh : here ∈ found) (hk : k ∈ ks) (j : e k = (here, far) ∨ e k = (far, here)) (hf : far ∉ found) :
    Srch e ks a (found ++ [far]) (putW W far (W here ++ [k])) := by
  have ne : ∀ p ∈ found, p ≠ far := fun p hp c => hf (c ▸ hp)
  refine ⟨List.mem_append_left _ s.st, ?_, ?_, fun p hp => ?_⟩
  · unfold putW; rw [if_neg (ne a s.st)]; exact s.wa
  · rw [List.nodup_append]
    refine ⟨s.nd, by simp, fun x hx y hy => ?_⟩
    rw [List.mem_singleton] at hy; subst hy
    exact ne x hx
  · rcases List.mem_append.mp hp with hp | hp
    · obtain ⟨w1, w2, w3⟩ := s.way p hp
      unfold putW
      rw [if_neg (ne p hp)]
      exact ⟨w1, w2, fun k hk => ⟨List.mem_append_left _ (w3 k hk).1, List.mem_append_left _ (w3 k hk).2⟩⟩
    · rw [List.mem_singleton] at hp; subst hp
      obtain ⟨w1, w2, w3⟩ := s.way here hh
      unfold putW
      rw [if_pos rfl]
      refine ⟨w1.sn hk j, ?_, fun i hi => ?_⟩
      · rw [List.nodup_append]
        refine ⟨w2, by simp, fun x hx y hy c => ?_⟩
        rw [List.mem_singleton] at hy; subst hy; subst c
        have := w3 x hx
        rcases j with j | j
        · rw [j] at this; exact hf this.2
        · rw [j] at this; exact hf this.1
      · rcases List.mem_append.mp hi with hi | hi
        · exact ⟨List.mem_append_left _ (w3 i hi).1, List.mem_append_left _ (w3 i hi).2⟩
        · rw [List.mem_singleton] at hi; subst hi
          rcases j with j | j <;> rw [j] <;> simp [hh]
/-- all next places of p are found -/
def Cl (e : Nat → Nat × Nat) (ks found : List Nat) (p : Nat) : Prop := ∀ k ∈ ks, ((e k).1 = p → (e k).2 ∈ found) ∧ ((e k).2 = p → (e k).1 ∈ found)
theorem Cl.mono {ks f g : List Nat} {p : Nat} (c : Cl e ks f p) (s : ∀ q ∈ f, q ∈ g) : Cl e ks g p := fun k hk => ⟨fun h => s _ ((c k hk).1 h), fun h => s _ ((c k hk).2 h)⟩
theorem Srch.all {ks : List Nat} {a : Nat} {found : List Nat} {W : Nat → List Nat} (s : Srch e ks a found W) (cl : ∀ p ∈ found, Cl e ks found p) {b : Nat} (j : Jn e ks a b) : b ∈ found := by
  unfold Jn at j
  induction j with
  | rf => exact s.st
  | fw _ m ih =>
    obtain ⟨k, hk, h⟩ := List.mem_map.mp m
    have := (cl _ ih k hk).1 (by rw [h])
    rwa [h] at this
  | bw _ m ih =>
    obtain ⟨k, hk, h⟩ := List.mem_map.mp m
    have := (cl _ ih k hk).2 (by rw [h])
    rwa [h] at this
theorem len_lt {n : Nat} {t : List Nat} (nd : t.Nodup) (lt : ∀ p ∈ t, p < n) : t.length ≤ n := by
  have := nd.length_le_of_subset (l₂ := List.range n) (fun p hp => by simpa using lt p hp)
  simpa using this
end
end MG

namespace G20
open PySem PySem.Spec
open PyProof.Rows hiding St
open L2 AB MG
theorem getN {pc : List Nat} {a : Nat} (h : a < pc.length) : pc[a]? = some (pc.getD a 0) := by simp [h]
structure Tree (n : Nat) (L : List (Str × Nat × Nat)) (ks : List Nat) : Prop where
  lt : ∀ k ∈ ks, k < L.length
  srt : ks.Pairwise (· ≤ ·)
  nd : ks.Nodup
  fst : Fst (edg L) ks
  cn : ∀ a b, a < n → b < n → Jn (edg L) ks a b
theorem Tree.len {n : Nat} {L : List (Str × Nat × Nat)} {ks : List Nat} (t : Tree n L ks) : ks.length ≤ L.length := len_lt t.nd t.lt
theorem mem_line {L : List (Str × Nat × Nat)} {x : Nat × Nat} (h : x ∈ L.map (·.2)) : ∃ k, k < L.length ∧ edg L k = x := by
  obtain ⟨l, hl, rfl⟩ := List.mem_map.mp h
  obtain ⟨k, hk, rfl⟩ := List.getElem_of_mem hl
  exact ⟨k, hk, by unfold edg; simp [hk]⟩
theorem edg_at {L : List (Str × Nat × Nat)} {k : Nat} (hk : k < L.length) (h : AH) : fIx (.tup [.str (L.getD k ("", 0, 0)).1, .int (edg L k).1, .int (edg L k).2]) (.int 1) h = .ok (.int (edg L k).1) h ∧ fIx (.tup [.str (L.getD k ("", 0, 0)).1, .int (edg L k).1, .int (edg L k).2]) (.int 2) h = .ok (.int (edg L k).2) h := ⟨fIx_tup rfl, fIx_tup rfl⟩
def sgG (ns : List Str) (L : List (Str × Nat × Nat)) (w : PV) (row hs : List Nat) (k : Nat) (o6 o7 o8 o9 : Option PV) : ASt := [some (.loc 2), some (netV ns L), some w, some (.lst (row.map nI)), some (.lst (hs.map nI)), some (.loc k), o6, o7, o8, o9]
abbrev bdG : AS := (sSeq (sAsg (aTup (aCons (aOp fIx (aVar 4) (aOp fIx (aOp fIx (aOp fIx (aVar 1) (aC (.int 1))) (aVar 6)) (aC (.int 1)))) (aCons (aOp fIx (aVar 4) (aOp fIx (aOp fIx (aOp fIx (aVar 1) (aC (.int 1))) (aVar 6)) (aC (.int 2)))) (aNil)))) (gTup' 2 (gCons' (gN 7) (gCons' (gN 8) (gNil'))))) (sIf (aB (aOp fNe (aVar 7) (aVar 8))) (sSeq (sExpr (aM isL mAppend (aVar 5) (aCons (aVar 6) (aNil)))) (sSet 4 (aCut (aLc (aItS (aVar 4)) [9] (gN 9) (tYes') (aIf (aB (aOp fIn (aVar 9) (aTup (aCons (aVar 7) (aCons (aVar 8) (aNil)))))) (aFn fnMin (aCons (aVar 7) (aCons (aVar 8) (aNil)))) (aVar 9)))))) (sNext)))
/-- one line more -/
theorem grow_in {h : AH} {ns : List Str} {L : List (Str × Nat × Nat)} (N : Net ns L) (w : PV) (row : List Nat) {kk : Nat} (hk : h.length = kk) {hs done tr : List Nat} (i : LI (edg L) ns.length done tr hs) {k : Nat} (kl : k < L.length) (zt : tr.length ≤ 1000) (o7 o8 o9 : Option PV) :
    ∃ hs' tr' p7 p8, bdG (sgG ns L w row hs kk (some (nI k)) o7 o8 o9) (h ++ [AO.lst (tr.map nI)]) = .fin .nx (sgG ns L w row hs' kk (some (nI k)) p7 p8 o9) (h ++ [AO.lst (tr'.map nI)]) ∧ LI (edg L) ns.length (done ++ [k]) tr' hs' := by
  obtain ⟨ea, eb⟩ := edg_lt N.lt kl
  have n10 := N.n10
  have hl := i.len
  have nk := net_k kl (h ++ [AO.lst (tr.map nI)])
  obtain ⟨k1, k2⟩ := edg_at kl (h ++ [AO.lst (tr.map nI)])
  have ga : ∀ g, fIx (.lst (hs.map nI)) (.int (edg L k).1) g = .ok (.int (hs.getD (edg L k).1 0 : Nat)) g := fun g => fIx_lst (nI_get (getN (by omega)))
  have gb : ∀ g, fIx (.lst (hs.map nI)) (.int (edg L k).2) g = .ok (.int (hs.getD (edg L k).2 0 : Nat)) g := fun g => fIx_lst (nI_get (getN (by omega)))
  let pa := hs.getD (edg L k).1 0
  let pb := hs.getD (edg L k).2 0
  let σ1 : List Nat → Option PV → ASt := fun hs o9 => sgG ns L w row hs kk (some (nI k)) (some (nI pa)) (some (nI pb)) o9
  have s1 : (sAsg (aTup (aCons (aOp fIx (aVar 4) (aOp fIx (aOp fIx (aOp fIx (aVar 1) (aC (.int 1))) (aVar 6)) (aC (.int 1)))) (aCons (aOp fIx (aVar 4) (aOp fIx (aOp fIx (aOp fIx (aVar 1) (aC (.int 1))) (aVar 6)) (aC (.int 2)))) (aNil)))) (gTup' 2 (gCons' (gN 7) (gCons' (gN 8) (gNil'))))) (sgG ns L w row hs kk (some (nI k)) o7 o8 o9) (h ++ [AO.lst (tr.map nI)]) = .fin .nx (σ1 hs o9) (h ++ [AO.lst (tr.map nI)]) := by
    refine sAsg_ok (v := .tup [nI pa, nI pb]) (aTup_ok (aCons_ok (aOp_ok rfl (aOp_ok (aOp_ok (aOp_ok rfl rfl (net_1 _ _ _)) rfl nk) rfl k1) (ga _)) (aCons_ok (aOp_ok rfl (aOp_ok (aOp_ok (aOp_ok rfl rfl (net_1 _ _ _)) rfl nk) rfl k2) (gb _)) rfl)) (by simp)) rfl
  have ec : (aB (aOp fNe (aVar 7) (aVar 8))) (σ1 hs o9) (h ++ [AO.lst (tr.map nI)]) = .ok (!decide (((pa : Nat) : Int) = (pb : Nat))) (h ++ [AO.lst (tr.map nI)]) := aB_ok (aOp_ok rfl rfl (fNe_i _ _ _))
  by_cases c : pa = pb
  · rw [decide_eq_true (by omega)] at ec
    refine ⟨hs, tr, _, _, by { refine sSeq_ok s1 ?_; exact (sIf_f ec).trans rfl }, i.skip ea eb c⟩
  · rw [decide_eq_false (by omega)] at ec
    let m : Nat := if pb < pa then pb else pa
    let f : Nat → Nat := fun s => if s = pa ∨ s = pb then m else s
    have ap : mAppend (.loc kk) [nI k] (h ++ [AO.lst (tr.map nI)]) = .ok .non (h ++ [AO.lst ((tr ++ [k]).map nI)]) := by
      rw [ap0 hk (by simp; omega)]; simp
    have elc := aLc_map (m := aItS (aVar 4)) (a := itVals (hs.map nI)) (vs := [9]) (g := gN 9) (t := tYes') (e := aIf (aB (aOp fIn (aVar 9) (aTup (aCons (aVar 7) (aCons (aVar 8) (aNil)))))) (aFn fnMin (aCons (aVar 7) (aCons (aVar 8) (aNil)))) (aVar 9)) (σ := σ1 hs o9) (h := h ++ [AO.lst ((tr ++ [k]).map nI)]) (h1 := h ++ [AO.lst ((tr ++ [k]).map nI)]) rfl (hs.map nI)
      (fun x => match x with | .int s => .int (f s.toNat) | x => x) (Nat.le_refl _) (by simp; omega) (fun _ _ _ => rfl) (fun x hx acc => by
        obtain ⟨s, hs', rfl⟩ := List.mem_map.mp hx
        refine ⟨σ1 hs (some (nI s)), rfl, rfl, ?_⟩
        have eq : (aB (aOp fIn (aVar 9) (aTup (aCons (aVar 7) (aCons (aVar 8) (aNil)))))) (σ1 hs (some (nI s))) (h ++ [AO.lst ((tr ++ [k]).map nI)] ++ [AO.lst acc]) = .ok (decide ((s : Int) ∈ [(pa : Int), (pb : Int)])) (h ++ [AO.lst ((tr ++ [k]).map nI)] ++ [AO.lst acc]) :=
          aB_ok (aOp_ok rfl (aTup_ok (xs := [.int pa, .int pb]) rfl (by simp)) (fIn_i (ns := [(pa : Int), (pb : Int)]) rfl))
        by_cases d : s = pa ∨ s = pb
        · rw [decide_eq_true (by simp; omega)] at eq
          refine (aIf_t eq).trans ((aFn_ok rfl (show fnMin [.int pa, .int pb] _ = _ from rfl)).trans ?_)
          show Res.ok (PV.int (if (pb : Int) < pa then (pb : Int) else pa)) _ = Res.ok (PV.int ((if s = pa ∨ s = pb then m else s : Nat) : Int)) _
          rw [if_pos d]
          show _ = Res.ok (PV.int ((if pb < pa then pb else pa : Nat) : Int)) _
          by_cases e : pb < pa
          · rw [if_pos e, if_pos (by omega)]
          · rw [if_neg e, if_neg (by omega)]
        · rw [decide_eq_false (by simp; omega)] at eq
          refine (aIf_f eq).trans ?_
          show _ = Res.ok (PV.int ((if s = pa ∨ s = pb then m else s : Nat) : Int)) _
          rw [if_neg d]; rfl)
    have emm : (hs.map nI).map (fun x => match x with | .int s => PV.int (f s.toNat) | x => x) = (hs.map f).map nI := by rw [List.map_map, List.map_map]; rfl
    rw [emm] at elc
    have ecut := (aCut_ok elc).trans (finC_ext (frz_new (Nat.le_refl _) (getLast_app _ _) (low_nI _ _)))
    have e4 : (sSet 4 (aCut (aLc (aItS (aVar 4)) [9] (gN 9) (tYes') (aIf (aB (aOp fIn (aVar 9) (aTup (aCons (aVar 7) (aCons (aVar 8) (aNil)))))) (aFn fnMin (aCons (aVar 7) (aCons (aVar 8) (aNil)))) (aVar 9))))) (σ1 hs o9) (h ++ [AO.lst ((tr ++ [k]).map nI)]) = .fin .nx (σ1 (hs.map f) o9) (h ++ [AO.lst ((tr ++ [k]).map nI)]) := sSet_ok ecut
    have e5 : (sExpr (aM isL mAppend (aVar 5) (aCons (aVar 6) (aNil)))) (σ1 hs o9) (h ++ [AO.lst (tr.map nI)]) = .fin .nx (σ1 hs o9) (h ++ [AO.lst ((tr ++ [k]).map nI)]) := sExpr_ok (aM_ok rfl (isL0 hk) rfl ap)
    refine ⟨hs.map f, tr ++ [k], _, _, by { refine sSeq_ok s1 ?_; refine (sIf_t ec).trans ?_; refine sSeq_ok e5 ?_; exact e4 }, i.join (m := m) ea eb c ?_ (fun s => rfl)⟩
    show (if pb < pa then pb else pa) = pa ∨ (if pb < pa then pb else pa) = pb
    split <;> simp
end G20

namespace AB
/-! distinct numbers -/
theorem dedI_run : ∀ (ns s : List Int), s.Nodup → let r := ns.foldl (fun s k => if s.any (· == k) then s else s ++ [k]) s; r.Nodup ∧ ∀ x, x ∈ r ↔ x ∈ s ∨ x ∈ ns
  | [], s, h => ⟨h, fun x => by simp⟩
  | n :: ns, s, h => by
    have q := dedI_run ns (if s.any (· == n) then s else s ++ [n]) (by
      split
      · exact h
      · rename_i c
        rw [List.nodup_append]
        refine ⟨h, by simp, fun x hx y hy e => c ?_⟩
        rw [List.mem_singleton] at hy; subst hy; subst e
        exact List.any_eq_true.mpr ⟨x, hx, by simp⟩)
    refine ⟨q.1, fun x => (q.2 x).trans ?_⟩
    split
    · rename_i c
      obtain ⟨y, hy, e⟩ := List.any_eq_true.mp c
      have : y = n := by simpa using e
      subst this
      constructor
      · rintro (a | a)
        · exact .inl a
        · exact .inr (List.mem_cons_of_mem _ a)
      · rintro (a | a)
        · exact .inl a
        · rcases List.mem_cons.mp a with a | a
          · subst a; exact .inl hy
          · exact .inr a
    · rw [List.mem_append, List.mem_singleton, List.mem_cons, or_assoc]
theorem dedI_len {ns : List Int} {vs : List Nat} (nd : vs.Nodup) (h : ∀ x : Int, x ∈ ns ↔ ∃ v ∈ vs, x = (v : Int)) : (dedI ns).length = vs.length := by
  have q := dedI_run ns [] (by simp)
  have e : dedI ns = ns.foldl (fun s k => if s.any (· == k) then s else s ++ [k]) [] := rfl
  rw [← e] at q
  have p : (dedI ns).Perm (vs.map fun v : Nat => (v : Int)) := by
    refine (List.perm_ext_iff_of_nodup q.1 ?_).mpr fun x => ?_
    · rw [List.nodup_iff_pairwise_ne, List.pairwise_map]
      exact (List.nodup_iff_pairwise_ne.mp nd).imp fun h e => h (by omega)
    · rw [q.2, h]
      simp only [List.not_mem_nil, false_or, List.mem_map]
      constructor
      · rintro ⟨v, hv, e⟩; exact ⟨v, hv, e.symm⟩
      · rintro ⟨v, hv, e⟩; exact ⟨v, hv, e.symm⟩
  rw [p.length_eq, List.length_map]
end AB
namespace MG
theorem filter_ne_len {vs : List Nat} (nd : vs.Nodup) {x : Nat} (hx : x ∈ vs) : (vs.filter fun v => !decide (v = x)).length + 1 = vs.length := by
  induction vs with
  | nil => cases hx
  | cons v vs ih =>
    obtain ⟨h1, h2⟩ := List.nodup_cons.mp nd
    by_cases c : v = x
    · subst c
      rw [List.filter_cons_of_neg (by simp), List.filter_eq_self.mpr fun y hy => by
        have : y ≠ v := fun e => h1 (e ▸ hy)
        simp [this]]
      rfl
    · rw [List.filter_cons_of_pos (by simp [c]), List.length_cons, List.length_cons]
      rcases List.mem_cons.mp hx with e | hx
      · exact absurd e.symm c
      · rw [ih h2 hx]
/-- labels, their number, the least at place 0 -/
structure LJ (e : Nat → Nat × Nat) (n : Nat) (done tr hs : List Nat) : Prop where
  li : LI e n done tr hs
  z : hs.getD 0 0 = 0
  ct : ∃ vs : List Nat, vs.Nodup ∧ (∀ x, x ∈ vs ↔ x ∈ hs) ∧ vs.length + tr.length = n
theorem LJ.start {e : Nat → Nat × Nat} (n : Nat) : LJ e n [] [] (List.range n) := ⟨LI.start n, by
  by_cases c : 0 < n
  · simp [c]
  · have : n = 0 := by omega
    subst this; rfl, List.range n, List.nodup_range, fun x => Iff.rfl, by simp⟩
theorem LJ.step {e : Nat → Nat × Nat} {n : Nat} {done tr hs : List Nat} (i : LJ e n done tr hs) {k : Nat} (la : (e k).1 < n) (lb : (e k).2 < n) {low high : Nat}
    (hl : low = min (hs.getD (e k).1 0) (hs.getD (e k).2 0)) (hh : high = max (hs.getD (e k).1 0) (hs.getD (e k).2 0)) : ∃ tr', LJ e n (done ++ [k]) tr' (hs.map fun s => if s = high then low else s) := by
  have gm : ∀ p, p < n → hs.getD p 0 ∈ hs := fun p hp => by
    have : p < hs.length := by rw [i.li.len]; exact hp
    simp [List.getD_eq_getElem?_getD, this]
  have z' : (hs.map fun s => if s = high then low else s).getD 0 0 = 0 := by
    by_cases c : 0 < n
    · have : 0 < hs.length := by rw [i.li.len]; exact c
      have e1 : (hs.map fun s => if s = high then low else s).getD 0 0 = if hs.getD 0 0 = high then low else hs.getD 0 0 := by simp [List.getD_eq_getElem?_getD, this]
      rw [e1, i.z]
      split <;> omega
    · have : hs = [] := List.eq_nil_of_length_eq_zero (by rw [i.li.len]; omega)
      subst this; rfl
  by_cases c : hs.getD (e k).1 0 = hs.getD (e k).2 0
  · have e1 : (hs.map fun s => if s = high then low else s) = hs := by
      conv => rhs; rw [← List.map_id hs]
      refine List.map_congr_left fun s _ => ?_
      show (if s = high then low else s) = s
      split <;> omega
    rw [e1] at z' ⊢
    exact ⟨tr, i.li.skip la lb c, z', i.ct⟩
  · have hf : ∀ s, (if s = high then low else s) = if s = hs.getD (e k).1 0 ∨ s = hs.getD (e k).2 0 then low else s := fun s => by
      split <;> split <;> omega
    refine ⟨tr ++ [k], i.li.join (m := low) la lb c (by omega) hf, z', ?_⟩
    obtain ⟨vs, nd, mem, ct⟩ := i.ct
    have hin : high ∈ vs := (mem _).mpr (by
      rcases (show high = hs.getD (e k).1 0 ∨ high = hs.getD (e k).2 0 by omega) with h | h
      · rw [h]; exact gm _ la
      · rw [h]; exact gm _ lb)
    have lin : low ∈ hs := by
      rcases (show low = hs.getD (e k).1 0 ∨ low = hs.getD (e k).2 0 by omega) with h | h
      · rw [h]; exact gm _ la
      · rw [h]; exact gm _ lb
    have lh : low ≠ high := by omega
    refine ⟨vs.filter fun v => !decide (v = high), nd.filter _, fun x => ?_, ?_⟩
    · rw [List.mem_filter, mem, List.mem_map]
      constructor
      · rintro ⟨h1, h2⟩
        have : x ≠ high := by simpa using h2
        exact ⟨x, h1, by rw [if_neg this]⟩
      · rintro ⟨s, hs', rfl⟩
        split
        · exact ⟨lin, by simp [lh]⟩
        · rename_i q; exact ⟨hs', by simp [q]⟩
    · have := filter_ne_len nd hin
      rw [List.length_append, List.length_singleton]; omega
theorem LJ.step1 {e : Nat → Nat × Nat} {n : Nat} {done tr hs : List Nat} (i : LJ e n done tr hs) (fd : Fst e done) : ∀ j ∈ done, j ∈ tr := fun j hj => by
  by_cases c : j ∈ tr
  · exact c
  · have h := i.li.two _ _ (i.li.lt j hj).1 (i.li.lt j hj).2 (i.li.one j hj)
    exact absurd (h.mono fun x hx => mem_wo.mpr ⟨i.li.sub x hx, fun e => by subst e; exact c hx⟩) (fd j hj)
/-- the count tells whether there is a ring -/
theorem LJ.forest {e : Nat → Nat × Nat} {n : Nat} {done tr hs : List Nat} (i : LJ e n done tr hs) (nd : done.Nodup) : tr.length = done.length ↔ Fst e done := by
  constructor
  · intro h
    refine i.li.fst.perm ?_
    refine (List.perm_ext_iff_of_nodup nd i.li.nd).mpr fun x => ⟨fun hx => ?_, i.li.sub x⟩
    by_cases c : x ∈ tr
    · exact c
    · have : (x :: tr).length ≤ done.length := (List.nodup_cons.mpr ⟨c, i.li.nd⟩).length_le_of_subset fun y hy => by
        rcases List.mem_cons.mp hy with rfl | hy
        · exact hx
        · exact i.li.sub y hy
      simp at this; omega
  · intro f
    have h1 : tr.length ≤ done.length := i.li.nd.length_le_of_subset i.li.sub
    have h2 : done.length ≤ tr.length := nd.length_le_of_subset (i.step1 f)
    omega
end MG

namespace AB
open PySem PySem.Spec
open PyProof.Rows hiding St
open L2
section
variable {σ σ1 : ASt} {h h1 h2 : AH} {c : Addr} {fs : List (Str × PV)}
theorem sSeq_exc {a b : AS} (e : a σ h = .exc c fs σ1 h1) : sSeq a b σ h = .exc c fs σ1 h1 := by rw [sSeq_eq, e]
theorem sExpr_exc {m : AE} (e : m σ h = .exc c fs h1) : sExpr m σ h = .exc c fs σ h1 := by unfold sExpr; rw [e]; rfl
theorem sSet_exc {m : AE} {i : Nat} (e : m σ h = .exc c fs h1) : sSet i m σ h = .exc c fs σ h1 := by unfold sSet; rw [e]; rfl
theorem sRet_exc {m : AE} (e : m σ h = .exc c fs h1) : sRet m σ h = .exc c fs σ h1 := by unfold sRet; rw [e]; rfl
theorem mDef_exc {n : Nat} {b : AS} {xs : List PV} (e : b (startA n xs) h = .exc c fs σ h1) : mDef false n b xs h = .exc c fs h1 := by unfold mDef endF; rw [e]
theorem aCut_exc {m : AE} (e : m σ h = .exc c fs h1) : aCut m σ h = .exc c fs h1 := by unfold aCut; rw [e]
theorem aCons_exc {a : AE} {l : AL} (e : a σ h = .exc c fs h1) : aCons a l σ h = .exc c fs h1 := by unfold aCons; rw [e]; rfl
theorem aCons_exc2 {a : AE} {l : AL} {x : PV} (e : a σ h = .ok x h1) (e2 : l σ h1 = .exc c fs h2) : aCons a l σ h = .exc c fs h2 := by unfold aCons; rw [e, Res.bind_ok, e2]; rfl
theorem aTup_exc {l : AL} (e : l σ h = .exc c fs h1) : aTup l σ h = .exc c fs h1 := by unfold aTup; rw [e]; rfl
theorem sRaise_ok {C : Addr} {names : List Str} {l : AL} {xs : List PV} (e : l σ h = .ok xs h1) (hl : xs.length = names.length) : sRaise C names l σ h = .exc C (names.zip xs).reverse σ h1 := by
  unfold sRaise; rw [e, liftS_ok]; exact if_pos hl
theorem sTry_fin {i : Nat} {hits : List Addr} {mb : AS} {mE : Addr → List (Str × PV) → AE} {f : Fl} (e : mb σ h = .fin f σ1 h1) : sTry i hits mb mE σ h = .fin f σ1 h1 := by unfold sTry; rw [e]
theorem sTry_exc {i : Nat} {hits : List Addr} {mb : AS} {mE : Addr → List (Str × PV) → AE} {v : PV} (e : mb σ h = .exc c fs σ1 h1) (hc : c ∈ hits) (hi : i < σ1.length) (ev : mE c fs (σ1.set i none) h1 = .ok v h2) : sTry i hits mb mE σ h = .fin (.rt v) (σ1.set i none) h2 := by
  unfold sTry; rw [e]; dsimp only; rw [if_pos ⟨hc, hi⟩, ev]
end
theorem tCut_ext {m : AT} {σ : ASt} {h g : AH} {b : Bool} (e : m σ h = .ok b (h ++ g)) : tCut m σ h = .ok b h := by
  unfold tCut; rw [e]; dsimp only
  rw [if_pos (cutB_of fun n hn => .inl (List.getElem?_append_left hn)), List.take_left]
theorem tXi_hit {c : Addr} {b : Bool} {tb : List (Addr × Bool)} {σ : ASt} {h : AH} : tXi c ((c, b) :: tb) σ h = .ok b h := by
  unfold tXi; simp [List.lookup]
theorem aXf_hit {fs : List (Str × PV)} {f : Str} {x : PV} {σ : ASt} {h : AH} (e : fs.lookup f = some x) : aXf fs f σ h = .ok x h := by
  unfold aXf; rw [e]
theorem fAdd_ll {n : Nat} {xs ys : List PV} {h : AH} (e : h[n]? = some (.lst xs)) (hz : xs.length + ys.length ≤ 1000000) : fAdd (.loc n) (.lst ys) h = .ok (.loc h.length) (h ++ [.lst (xs ++ ys)]) := by
  show (match lstOf (.loc n) h, lstOf (.lst ys) h with | some xs, some ys => _ | _, _ => _) = _
  rw [lstOf_loc e, lstOf_lst]
  exact if_pos (size_ok hz)
theorem fAdd_lo {n m : Nat} {xs ys : List PV} {h : AH} (e : h[n]? = some (.lst xs)) (e2 : h[m]? = some (.lst ys)) (hz : xs.length + ys.length ≤ 1000000) : fAdd (.loc n) (.loc m) h = .ok (.loc h.length) (h ++ [.lst (xs ++ ys)]) := by
  show (match lstOf (.loc n) h, lstOf (.loc m) h with | some xs, some ys => _ | _, _ => _) = _
  rw [lstOf_loc e, lstOf_loc e2]
  exact if_pos (size_ok hz)
theorem mem_castN' {i : Nat} {ks : List Nat} : ((i : Int) ∈ ks.map fun n : Nat => (n : Int)) ↔ i ∈ ks := by
  constructor
  · intro h
    obtain ⟨j, hj, e⟩ := List.mem_map.mp h
    have : j = i := by omega
    exact this ▸ hj
  · intro h; exact List.mem_map.mpr ⟨i, h, rfl⟩
theorem fIn_nn {i : Nat} {ks : List Nat} {u : PV} {h : AH} (e : seqOf u h = some (ks.map nI)) : fIn (.int i) u h = .ok (.bl (decide (i ∈ ks))) h := by
  rw [fIn_i (by rw [e, nI_map]), decide_eq_decide.mpr mem_castN']
theorem fNin_nn {i : Nat} {ks : List Nat} {u : PV} {h : AH} (e : seqOf u h = some (ks.map nI)) : fNin (.int i) u h = .ok (.bl (!decide (i ∈ ks))) h := by
  rw [fNin_i (by rw [e, nI_map]), decide_eq_decide.mpr mem_castN']
theorem max0 (ns : List Nat) : ((ns.map fun n : Nat => (n : Int)).foldl max 0 = 0) ↔ ∀ x ∈ ns, x = 0 := by
  obtain ⟨h1, h2, h3⟩ := foldl_max_le (ns.map fun n : Nat => (n : Int)) 0
  constructor
  · intro e x hx
    have := h2 (x : Int) (List.mem_map.mpr ⟨x, hx, rfl⟩)
    omega
  · intro a
    rcases h3 with h3 | h3
    · exact h3
    · obtain ⟨x, hx, e⟩ := List.mem_map.mp h3
      rw [← e, a x hx]; rfl
theorem nodup_one {α : Type} {vs : List α} (nd : vs.Nodup) {v : α} (h : ∀ x ∈ vs, x = v) : vs.length ≤ 1 := by
  cases vs with
  | nil => simp
  | cons a r =>
    cases r with
    | nil => simp
    | cons b r =>
      have e1 := h a (by simp)
      have e2 := h b (by simp)
      exact absurd (show a ∈ b :: r by rw [e1, ← e2]; simp) (List.nodup_cons.mp nd).1
theorem ded_one {ns : List Int} (ne : ns ≠ []) : (dedI ns).length = 1 ↔ ∀ y ∈ ns, ∀ z ∈ ns, y = z := by
  have q := dedI_run ns [] (by simp)
  have e : dedI ns = ns.foldl (fun s k => if s.any (· == k) then s else s ++ [k]) [] := rfl
  rw [← e] at q
  have mem : ∀ x, x ∈ dedI ns ↔ x ∈ ns := fun x => by rw [q.2]; simp
  constructor
  · intro h y hy z hz
    obtain ⟨x, ex⟩ := List.length_eq_one_iff.mp h
    have h1 := (mem y).mpr hy
    have h2 := (mem z).mpr hz
    rw [ex, List.mem_singleton] at h1 h2
    rw [h1, h2]
  · intro h
    obtain ⟨x, hx⟩ := List.exists_mem_of_ne_nil _ ne
    have h1 := nodup_one q.1 (v := x) fun y hy => h y ((mem y).mp hy) x hx
    have h2 := List.length_pos_of_mem ((mem x).mpr hx)
    omega
end AB
namespace MG
open AB
variable {e : Nat → Nat × Nat} {n : Nat}
theorem LI.step1 {done tr hs : List Nat} (i : LI e n done tr hs) (fd : Fst e done) : ∀ j ∈ done, j ∈ tr := fun j hj => by
  by_cases c : j ∈ tr
  · exact c
  · have h := i.two _ _ (i.lt j hj).1 (i.lt j hj).2 (i.one j hj)
    exact absurd (h.mono fun x hx => mem_wo.mpr ⟨i.sub x hx, fun e => by subst e; exact c hx⟩) (fd j hj)
theorem LI.agr {done tr hs : List Nat} (i : LI e n done tr hs) {a b : Nat} (j : Jn e done a b) : hs.getD a 0 = hs.getD b 0 :=
  Cn.agree (fun p => hs.getD p 0) (fun p hp => by
    obtain ⟨k, hk, rfl⟩ := List.mem_map.mp hp
    exact i.one k hk) j
theorem LI.span {done tr hs : List Nat} (i : LI e n done tr hs) {a b : Nat} (ha : a < n) (hb : b < n) : Jn e tr a b ↔ Jn e done a b :=
  ⟨fun j => j.mono i.sub, fun j => i.two a b ha hb (i.agr j)⟩
theorem LJ.runs : ∀ (js : List Nat) {done tr hs : List Nat}, LJ e n done tr hs → (∀ k ∈ js, (e k).1 < n ∧ (e k).2 < n) → ∃ tr' hs', LJ e n (done ++ js) tr' hs'
  | [], _, tr, hs, l, _ => ⟨tr, hs, by rw [List.append_nil]; exact l⟩
  | k :: js, _, _, _, l, hj => by
    obtain ⟨tr', l'⟩ := l.step (hj k (by simp)).1 (hj k (by simp)).2 rfl rfl
    obtain ⟨t2, h2, l2⟩ := LJ.runs js l' fun k hk => hj k (by simp [hk])
    exact ⟨t2, h2, by rw [List.append_assoc] at l2; exact l2⟩
theorem LJ.run (js : List Nat) (hj : ∀ k ∈ js, (e k).1 < n ∧ (e k).2 < n) : ∃ tr hs, LJ e n js tr hs := LJ.runs js (LJ.start n) hj
/-- as many lines as places but one: exactly if they hang all together -/
theorem fst_len (pos : 0 < n) {T : List Nat} (hT : ∀ k ∈ T, (e k).1 < n ∧ (e k).2 < n) (f : Fst e T) (nd : T.Nodup) : T.length + 1 ≤ n ∧ (T.length + 1 = n ↔ ∀ p, p < n → Jn e T 0 p) := by
  obtain ⟨tr, hs, l⟩ := LJ.run T hT
  have lt := (l.forest nd).mpr f
  obtain ⟨vs, nv, mem, ct⟩ := l.ct
  have hl := l.li.len
  have m0 : ∀ p, p < n → hs.getD p 0 ∈ vs := fun p hp => (mem _).mpr (by
    have : p < hs.length := by omega
    simp [List.getD_eq_getElem?_getD, this])
  have v1 := List.length_pos_of_mem (m0 0 pos)
  refine ⟨by omega, ?_, ?_⟩
  · intro h p hp
    obtain ⟨v, ev⟩ := List.length_eq_one_iff.mp (show vs.length = 1 by omega)
    have a := m0 0 pos
    have b := m0 p hp
    rw [ev, List.mem_singleton] at a b
    exact (l.li.two 0 p pos hp (by rw [a, b])).mono l.li.sub
  · intro h
    have := nodup_one nv (v := hs.getD 0 0) fun x hx => by
      obtain ⟨i, hi, ei⟩ := List.getElem_of_mem ((mem x).mp hx)
      have q := l.li.agr (h i (by omega))
      rw [q, List.getD_eq_getElem?_getD, List.getElem?_eq_getElem hi, ei]; rfl
    omega
end MG

namespace AB
open PySem PySem.Spec
open PyProof.Rows hiding St
open L2
/-! comprehensions with two fors; loops that look for something; zip; sorted pairs -/
theorem lcI_map {β : Type} {a : AI} {vs : List Nat} {g : AG} {e : AE} {σ : ASt} {h : AH} (ys : List β) (enc : β → PV) (f : β → PV) (hx : ∀ i acc, a.nxt i (h ++ [AO.lst acc]) = some (ys.map enc)[i]?)
    (step : ∀ y ∈ ys, ∃ σ2, ∀ acc, g (enc y) (wipeA σ vs) (h ++ [AO.lst acc]) = some (σ2, h ++ [AO.lst acc]) ∧ e σ2 (h ++ [AO.lst acc]) = .ok (f y) (h ++ [AO.lst acc])) :
    ∀ (k n j : Nat) (acc : List PV), k = ys.length - j → j ≤ ys.length → ys.length ≤ n + j → acc.length + ys.length < 1000000 + j → lcI a vs g tYes' e σ h.length n j (h ++ [AO.lst acc]) = some (h ++ [AO.lst (acc ++ (ys.drop j).map f)]) := by
  intro k
  induction k with
  | zero =>
    intro n j acc hk hj hn hz
    have ej : j = ys.length := by omega
    unfold lcI
    rw [hx, List.getElem?_eq_none (by rw [List.length_map]; omega)]
    subst ej
    simp
  | succ k ih =>
    intro n j acc hk hj hn hz
    have hlt : j < ys.length := by omega
    have ex : (ys.map enc)[j]? = some (enc ys[j]) := by simp [hlt]
    obtain ⟨σ2, st⟩ := step ys[j] (List.getElem_mem hlt)
    obtain ⟨e1, e2⟩ := st acc
    unfold lcI
    rw [hx, ex]
    cases n with
    | zero => omega
    | succ n =>
      simp only [e1, tYes'_eq, e2, getLast_app]
      rw [if_pos (size_lt (by omega)), set_last, ih n (j + 1) _ (by omega) (by omega) (by omega) (by simp; omega)]
      rw [List.drop_eq_getElem_cons hlt, List.map_cons, List.append_assoc, List.singleton_append]
theorem aLc2_map {α β : Type} {m : AIt} {a : AI} {vs vs1 : List Nat} {g g1 : AG} {m1 : AIt} {e : AE} {σ : ASt} {h h1 : AH} (em : m σ h = .ok a h1) (xs : List α) (enc : α → PV) (ys : α → List β) (encB : β → PV) (f : α → β → PV) (hn : xs.length ≤ a.n) (hz : (xs.flatMap ys).length < 1000000)
    (hx : ∀ i acc, a.nxt i (h1 ++ [AO.lst acc]) = some (xs.map enc)[i]?)
    (step : ∀ x ∈ xs, ∃ σ1, (∀ acc, g (enc x) (wipeA σ vs) (h1 ++ [AO.lst acc]) = some (σ1, h1 ++ [AO.lst acc])) ∧ (∀ acc, ∃ A, m1 σ1 (h1 ++ [AO.lst acc]) = .ok A (h1 ++ [AO.lst acc]) ∧ A.n = (ys x).length ∧ ∀ i acc', A.nxt i (h1 ++ [AO.lst acc']) = some ((ys x).map encB)[i]?) ∧
      ∀ y ∈ ys x, ∃ σ2, ∀ acc, g1 (encB y) (wipeA σ1 vs1) (h1 ++ [AO.lst acc]) = some (σ2, h1 ++ [AO.lst acc]) ∧ e σ2 (h1 ++ [AO.lst acc]) = .ok (f x y) (h1 ++ [AO.lst acc])) :
    aLc2 m vs g tYes' m1 vs1 g1 tYes' e σ h = .ok (.loc h1.length) (h1 ++ [AO.lst (xs.flatMap fun x => (ys x).map (f x))]) := by
  unfold aLc2
  rw [em, Res.bind_ok]
  have key : ∀ (k n i : Nat) (acc : List PV), k = xs.length - i → i ≤ xs.length → xs.length ≤ n + i → acc.length + ((xs.drop i).flatMap ys).length < 1000000 →
      lcO a vs g tYes' m1 vs1 g1 tYes' e σ h1.length n i (h1 ++ [AO.lst acc]) = .ok (.loc h1.length) (h1 ++ [AO.lst (acc ++ (xs.drop i).flatMap fun x => (ys x).map (f x))]) := by
    intro k
    induction k with
    | zero =>
      intro n i acc hk hi hn hz
      have ei : i = xs.length := by omega
      unfold lcO
      rw [hx, List.getElem?_eq_none (by rw [List.length_map]; omega)]
      subst ei
      simp
    | succ k ih =>
      intro n i acc hk hi hn hz
      have hlt : i < xs.length := by omega
      have ex : (xs.map enc)[i]? = some (enc xs[i]) := by simp [hlt]
      obtain ⟨σ1, s1, s2, s3⟩ := step xs[i] (List.getElem_mem hlt)
      obtain ⟨A, e2, nA, xA⟩ := s2 acc
      have ed : xs.drop i = xs[i] :: xs.drop (i + 1) := List.drop_eq_getElem_cons hlt
      rw [ed, List.flatMap_cons, List.length_append] at hz
      have e3 := lcI_map (a := A) (vs := vs1) (g := g1) (e := e) (σ := σ1) (h := h1) (ys xs[i]) encB (f xs[i]) xA s3 _ A.n 0 acc rfl (Nat.zero_le _) (by omega) (by omega)
      unfold lcO
      rw [hx, ex]
      cases n with
      | zero => omega
      | succ n =>
        simp only [s1, tYes'_eq, e2, e3]
        rw [ih n (i + 1) _ (by omega) (by omega) (by omega) (by rw [List.length_append, List.length_map, List.drop_zero]; omega), ed, List.flatMap_cons, List.append_assoc, List.drop_zero]
  have := key xs.length a.n 0 [] rfl (Nat.zero_le _) (by omega) (by simpa using hz)
  simpa using this
/-- a loop that ends at the first item that gives something; new objects may stay behind -/
theorem for_some {α : Type} {a : AI} {g : AG} {b : AS} (enc : α → PV) (xs : List α) (V : α → Option PV) (h : AH) (I : Nat → ASt → AH → Prop) (hn : a.n = xs.length) (hx : ∀ i G, a.nxt i (h ++ G) = some (xs.map enc)[i]?)
    (step : ∀ i x, xs[i]? = some x → (∀ y ∈ xs.take i, V y = none) → ∀ σ G, I i σ G → ∃ σ1 σ2 G', g (enc x) σ (h ++ G) = some (σ1, h ++ G) ∧ I (i + 1) σ2 G' ∧ b σ1 (h ++ G) = (match V x with | some v => .fin (.rt v) σ2 (h ++ G') | none => .fin .nx σ2 (h ++ G'))) :
    ∀ σ G, I 0 σ G → ∃ i σ' G', I i σ' G' ∧ forA a g b a.n 0 σ (h ++ G) = (match xs.findSome? V with | some v => .fin (.rt v) σ' (h ++ G') | none => .fin .nx σ' (h ++ G')) := by
  have key : ∀ (k n i : Nat) (σ : ASt) (G : AH), k = xs.length - i → i ≤ xs.length → xs.length ≤ n + i → (∀ y ∈ xs.take i, V y = none) → I i σ G → ∃ j σ' G', I j σ' G' ∧ forA a g b n i σ (h ++ G) = (match (xs.drop i).findSome? V with | some v => .fin (.rt v) σ' (h ++ G') | none => .fin .nx σ' (h ++ G')) := by
    intro k
    induction k with
    | zero =>
      intro n i σ G hk hi hn hp hI
      have ei : i = xs.length := by omega
      refine ⟨i, σ, G, hI, ?_⟩
      unfold forA
      rw [hx, List.getElem?_eq_none (by simp; omega)]
      subst ei
      simp
    | succ k ih =>
      intro n i σ G hk hi hn hp hI
      have hlt : i < xs.length := by omega
      have ex : (xs.map enc)[i]? = some (enc xs[i]) := by simp [hlt]
      have ed : xs.drop i = xs[i] :: xs.drop (i + 1) := List.drop_eq_getElem_cons hlt
      obtain ⟨σ1, σ2, G', e1, hI2, e2⟩ := step i xs[i] (by simp [hlt]) hp σ G hI
      cases n with
      | zero => omega
      | succ n =>
        cases c : V xs[i] with
        | some v =>
          rw [c] at e2
          refine ⟨i + 1, σ2, G', hI2, ?_⟩
          rw [ed, List.findSome?_cons, c]
          unfold forA
          rw [hx, ex]
          simp only [e1, e2]
        | none =>
          rw [c] at e2
          obtain ⟨j, σ', G2, hI', e'⟩ := ih n (i + 1) σ2 G' (by omega) (by omega) (by omega) (fun y hy => by
            rw [List.take_succ, List.getElem?_eq_getElem hlt] at hy
            rcases List.mem_append.mp hy with hy | hy
            · exact hp y hy
            · have : y = xs[i] := by simpa using hy
              rw [this]; exact c) hI2
          refine ⟨j, σ', G2, hI', ?_⟩
          rw [ed, List.findSome?_cons, c]
          unfold forA
          rw [hx, ex]
          simp only [e1, e2]
          exact e'
  intro σ G hI
  have := key xs.length a.n 0 σ G rfl (Nat.zero_le _) (by omega) (by simp) hI
  simpa using this
theorem find_flat {α β γ : Type} (f : α → List β) (V : β → Option γ) : ∀ xs : List α, (xs.flatMap f).findSome? V = xs.findSome? fun x => (f x).findSome? V
  | [] => rfl
  | x :: xs => by
    rw [List.flatMap_cons, List.findSome?_append, List.findSome?_cons, find_flat f V xs]
    cases (f x).findSome? V <;> rfl
theorem find_filter {α β : Type} (P : α → Bool) (f : α → β) : ∀ xs : List α, (xs.findSome? fun x => if P x = true then some (f x) else none) = (xs.filter P).head?.map f
  | [] => rfl
  | x :: xs => by
    rw [List.findSome?_cons]
    by_cases c : P x = true
    · rw [if_pos c, List.filter_cons_of_pos c]; rfl
    · rw [if_neg c, List.filter_cons_of_neg c]; exact find_filter P f xs
theorem aItS_lc {m : AE} {σ : ASt} {h h1 : AH} {n : Nat} {xs : List PV} (e : m σ h = .ok (.loc n) h1) (en : h1[n]? = some (.lst xs)) : aItS m σ h = .ok (itLive (.loc n) xs.length) h1 := by
  unfold aItS
  rw [e, Res.bind_ok]
  show itL (.loc n) h1 = _
  unfold itL
  rw [lstOf_loc en]
theorem live_at {h : AH} {n i : Nat} {xs : List PV} (k : Nat) (en : h[n]? = some (.lst xs)) : (itLive (.loc n) k).nxt i h = some xs[i]? := by
  show (lstOf (.loc n) h).map (fun xs => xs[i]?) = _
  rw [lstOf_loc en]; rfl
theorem fMul_l {xs : List PV} {k : Int} {h : AH} (k0 : 0 ≤ k) (k1 : k ≤ 1) (hz : xs.length ≤ 1000000) : fMul (.lst xs) (.int k) h = .ok (.loc h.length) (h ++ [.lst (if k = 1 then xs else [])]) := by
  show (if -(2 ^ 63) ≤ k ∧ k < 2 ^ 63 ∧ xs.length * k.toNat ≤ sizeLine then new (.lst (List.replicate k.toNat xs).flatten) h else .stuck) = _
  have : k = 0 ∨ k = 1 := by omega
  rcases this with rfl | rfl
  · rw [if_pos ⟨by decide, by decide, by simp⟩]; rfl
  · rw [if_pos ⟨by decide, by decide, by simpa using size_ok hz⟩]
    show Res.ok _ (h ++ [AO.lst (xs ++ [])]) = _
    rw [List.append_nil]; rfl
theorem aCallK_k {n nk np : Nat} {perm : List Nat} {m : FN} {l lk : AL} {σ : ASt} {h h1 h2 h3 : AH} {xs ys zs : List PV} {v : PV} (el : l σ h = .ok xs h1) (ek : lk σ h1 = .ok ys h2) (hp : kwG np nk perm xs ys = zs) (hn : zs.length = n) (em : m zs h2 = .ok v h3) : aCallK n nk np perm m l lk σ h = .ok v h3 := by
  unfold aCallK
  rw [el, Res.bind_ok, ek, Res.bind_ok, hp, if_pos hn, em]; rfl
theorem itZip_nxt (b lm : List Int) (i : Nat) (h : AH) : (itZip (b.map PV.int) (lm.map PV.int)).nxt i h = some ((b.zip lm).map prI)[i]? := by
  unfold itZip
  dsimp only
  rw [List.getElem?_map, List.getElem?_map, List.getElem?_map]
  cases c1 : b[i]? with
  | none =>
    have : (b.zip lm)[i]? = none := List.getElem?_eq_none (by have := List.getElem?_eq_none_iff.mp c1; rw [List.length_zip]; omega)
    rw [this]; rfl
  | some x =>
    cases c2 : lm[i]? with
    | none =>
      have : (b.zip lm)[i]? = none := List.getElem?_eq_none (by have := List.getElem?_eq_none_iff.mp c2; rw [List.length_zip]; omega)
      rw [this]; rfl
    | some y => rw [List.getElem?_zip_eq_some (z := (x, y)) |>.mpr ⟨c1, c2⟩]; rfl
end AB

namespace AB
open PySem PySem.Spec
open PyProof.Rows hiding St
open L2
/-! sorting that the kernel can do -/
def insI (x : Nat) : List Nat → List Nat
  | [] => [x]
  | y :: r => if x ≤ y then x :: y :: r else y :: insI x r
def srtI : List Nat → List Nat
  | [] => []
  | x :: r => insI x (srtI r)
theorem insI_perm (x : Nat) : ∀ r : List Nat, (insI x r).Perm (x :: r)
  | [] => List.Perm.refl _
  | y :: r => by
    unfold insI
    split
    · exact List.Perm.refl _
    · exact ((insI_perm x r).cons y).trans (List.Perm.swap x y r)
theorem srtI_perm : ∀ r : List Nat, (srtI r).Perm r
  | [] => List.Perm.refl _
  | x :: r => (insI_perm x _).trans ((srtI_perm r).cons x)
theorem insI_le (x : Nat) : ∀ r : List Nat, r.Pairwise (· ≤ ·) → (insI x r).Pairwise (· ≤ ·)
  | [], _ => by simp [insI]
  | y :: r, h => by
    obtain ⟨h1, h2⟩ := List.pairwise_cons.mp h
    unfold insI
    split
    · rename_i c
      refine List.pairwise_cons.mpr ⟨fun z hz => ?_, h⟩
      rcases List.mem_cons.mp hz with rfl | hz
      · exact c
      · have := h1 z hz; omega
    · rename_i c
      refine List.pairwise_cons.mpr ⟨fun z hz => ?_, insI_le x r h2⟩
      rcases List.mem_cons.mp ((insI_perm x r).mem_iff.mp hz) with rfl | hz
      · omega
      · exact h1 z hz
theorem srtI_le : ∀ r : List Nat, (srtI r).Pairwise (· ≤ ·)
  | [] => by simp [srtI]
  | x :: r => insI_le x _ (srtI_le r)
theorem srtN_I (ks : List Nat) : srtN ks = srtI ks := srtN_of (srtI_perm ks) (srtI_le ks)
theorem flat_congr {α β : Type} {f g : α → List β} : ∀ {xs : List α}, (∀ x ∈ xs, f x = g x) → xs.flatMap f = xs.flatMap g
  | [], _ => rfl
  | x :: xs, h => by
    rw [List.flatMap_cons, List.flatMap_cons, h x (by simp), flat_congr fun y hy => h y (by simp [hy])]
theorem find_map {α β γ : Type} (f : α → Option β) (g : β → γ) : ∀ xs : List α, (xs.findSome? fun x => (f x).map g) = (xs.findSome? f).map g
  | [] => rfl
  | x :: xs => by
    rw [List.findSome?_cons, List.findSome?_cons, find_map f g xs]
    cases f x <;> rfl
end AB

namespace G20
open PySem PySem.Spec
open PyProof.Rows hiding St
open L2 AB MG
theorem fAdd_l {a b : PV} {xs ys : List PV} {h : AH} {n m : Nat} (ea : a = .loc n) (eb : b = .loc m) (e1 : h[n]? = some (.lst xs)) (e2 : h[m]? = some (.lst ys)) (hz : xs.length + ys.length ≤ 1000000) : fAdd a b h = .ok (.loc h.length) (h ++ [AO.lst (xs ++ ys)]) := by
  subst ea; subst eb
  unfold fAdd AB.ownOf
  simp only [lstOf_loc e1, lstOf_loc e2]
  rw [if_pos (size_ok hz)]; rfl
theorem edges_of {L : List (Str × Nat × Nat)} {done : List Nat} (h : ∀ k, k < L.length → k ∈ done) : ∀ x ∈ L.map (·.2), ∃ k ∈ done, edg L k = x := fun x hx => by
  obtain ⟨k, hk, rfl⟩ := mem_line hx
  exact ⟨k, h k hk, rfl⟩
theorem srt_tree {n : Nat} {ns : List Str} {L : List (Str × Nat × Nat)} (N : Net ns L) {done tr hs : List Nat} (i : LI (edg L) ns.length done tr hs) (h : ∀ k, k < L.length ↔ k ∈ done) : Tree ns.length L (srtN tr) := by
  have p := srtN_perm tr
  have c : ∀ a, a < ns.length → Jn (edg L) tr 0 a := fun a ha => i.all (edges_of fun k hk => (h k).mp hk) N.pos ha (N.cn a ha)
  exact ⟨fun k hk => (h k).mpr (i.sub k (p.mem_iff.mp hk)), srtN_le tr, p.nodup_iff.mpr i.nd, i.fst.perm p, fun a b ha hb => ((c a ha).sm.tr (c b hb)).perm p.symm⟩
theorem grown {h J : AH} (t : Tp h) {ns : List Str} {L : List (Str × Nat × Nat)} (N : Net ns L) {wv : PV} {ws : List Nat} (hws : ∀ k ∈ ws, k < L.length) (lws : ws.length ≤ 100) (sq : ∀ h' g : AH, h'.length = h.length → seqOf wv (h' ++ J ++ g) = some (ws.map nI)) :
    ∃ (ks : List Nat) (h' : AH), m__law_grown [.loc 2, netV ns L, wv] (h ++ J) = .ok (.tup (ks.map nI)) (h' ++ J) ∧ Mv h h' ∧ Tree ns.length L ks := by
  unfold m__law_grown b__law_grown
  have n10 := N.n10
  have l20 := N.l20
  let H0 : AH := h ++ J
  let W0 : AO := AO.lst (ws.map nI)
  have t0 : Tp H0 := t.app _
  let σ0 : ASt := [some (.loc 2), some (netV ns L), some wv, none, none, none, none, none, none, none]
  have eln : ∀ g, fnLen [.tup (L.map lineV)] g = .ok (.int L.length) g := fun g => lenT (by simp) g
  have sq0 : seqOf wv H0 = some (ws.map nI) := by have := sq h [] rfl; rw [List.append_nil] at this; exact this
  have eA : (aFn fnList (aCons (aVar 2) (aNil))) σ0 H0 = .ok (.loc H0.length) (H0 ++ [W0]) := aFn_ok rfl (fnList_s sq0)
  have eR : (aLstRg1 (aFn fnLen (aCons (aOp fIx (aVar 1) (aC (.int 1))) (aNil)))) σ0 (H0 ++ [W0]) = .ok (.loc (H0 ++ [W0]).length) (H0 ++ [W0] ++ [AO.lst ((List.range L.length).map nI)]) :=
    aLstRg1_ok (n := L.length) (aFn_ok (aCons_ok (aOp_ok rfl rfl (net_1 _ _ _)) rfl) (eln _)) (by omega)
  obtain ⟨ys, f1, ey, py, m1⟩ := mixed ((t0.app [W0]).app [AO.lst ((List.range L.length).map nI)]) (v := .loc (H0 ++ [W0]).length) (xs := (List.range L.length).map nI) (seqOf_loc (getLast_app _ _)) (by simp; omega) (low_nI _ _)
  obtain ⟨f2, rfl, m2⟩ := (t0.app [W0]).split m1
  obtain ⟨f3, rfl, m3⟩ := t0.split m2
  obtain ⟨h2, rfl, m4⟩ := t.split m3
  have l2 := m4.len
  obtain ⟨row, rfl, prow⟩ := perm_inv (f := nI) (g := fun x => match x with | .int k => k.toNat | _ => 0) (fun x => rfl) py
  have lrow : row.length = L.length := by rw [prow.length_eq]; simp
  let H1 : AH := h2 ++ J
  let G : AH := H1 ++ [W0] ++ [AO.lst ((List.range L.length).map nI)]
  obtain ⟨A, eI, nA, xA⟩ := aItS_lst (aCall 2 m__law_mixed (aCons (aVar 0) (aCons (aLstRg1 (aFn fnLen (aCons (aOp fIx (aVar 1) (aC (.int 1))) (aNil)))) (aNil)))) σ0 (H0 ++ [W0]) G (row.map nI) (aCall_ok (aCons_ok rfl (aCons_ok eR rfl)) rfl ey)
  let rst := row.filter fun k => !decide (k ∈ ws)
  have lrst : rst.length ≤ row.length := List.length_filter_le _ _
  have eB : (aLc (aItS (aCall 2 m__law_mixed (aCons (aVar 0) (aCons (aLstRg1 (aFn fnLen (aCons (aOp fIx (aVar 1) (aC (.int 1))) (aNil)))) (aNil))))) [6] (gN 6) (aB (aOp fNin (aVar 6) (aVar 2))) (aVar 6)) σ0 (H0 ++ [W0]) = .ok (.loc G.length) (G ++ [AO.lst (rst.map nI)]) := by
    have q := aLc_filter (vs := [6]) (g := gN 6) (t := aB (aOp fNin (aVar 6) (aVar 2))) (e := aVar 6) eI (row.map nI) (fun x => match x with | .int i => !decide (i.toNat ∈ ws) | _ => false) (by omega) (by simp; omega) (fun i acc _ => xA i _) fun x hx acc => by
      obtain ⟨k, _, rfl⟩ := List.mem_map.mp hx
      refine ⟨[some (.loc 2), some (netV ns L), some wv, none, none, none, some (nI k), none, none, none], rfl, aB_ok (aOp_ok rfl rfl (fNin_nn ?_)), rfl⟩
      have := sq h2 ([W0] ++ [AO.lst ((List.range L.length).map nI)] ++ [AO.lst acc]) l2
      rw [← List.append_assoc, ← List.append_assoc] at this
      exact this
    rw [filt_nI (fun k => !decide (k ∈ ws)) _ (fun k => rfl)] at q
    exact q
  let full := ws ++ rst
  have lH : H1.length = H0.length := by simp [H1, H0, l2]
  have eAdd : fAdd (.loc H0.length) (.loc G.length) (G ++ [AO.lst (rst.map nI)]) = .ok (.loc (G ++ [AO.lst (rst.map nI)]).length) (G ++ [AO.lst (rst.map nI)] ++ [AO.lst (ws.map nI ++ rst.map nI)]) := by
    refine fAdd_l rfl rfl ?_ (getLast_app _ _) (by simp; omega)
    show (H1 ++ [W0] ++ [AO.lst ((List.range L.length).map nI)] ++ [AO.lst (rst.map nI)])[H0.length]? = _
    rw [List.append_assoc, List.append_assoc, ← lH]
    exact g0 rfl
  have e3 : (aCut (aOp fAdd (aFn fnList (aCons (aVar 2) (aNil))) (aLc (aItS (aCall 2 m__law_mixed (aCons (aVar 0) (aCons (aLstRg1 (aFn fnLen (aCons (aOp fIx (aVar 1) (aC (.int 1))) (aNil)))) (aNil))))) [6] (gN 6) (aB (aOp fNin (aVar 6) (aVar 2))) (aVar 6)))) σ0 H0 = .ok (.lst (full.map nI)) H1 := by
    refine (aCut_ok (aOp_ok eA eB eAdd)).trans ?_
    have es : G ++ [AO.lst (rst.map nI)] ++ [AO.lst (ws.map nI ++ rst.map nI)] = H1 ++ [W0, AO.lst ((List.range L.length).map nI), AO.lst (rst.map nI), AO.lst (ws.map nI ++ rst.map nI)] := by simp [G]
    rw [es, show full.map nI = ws.map nI ++ rst.map nI from List.map_append]
    refine finC_mv t0 (m4.app _) (frz_new (by simp [G]; omega) ?_ (by rw [← List.map_append]; exact low_nI _ _))
    rw [← es]
    exact getLast_app _ _
  have e4 : (aCut (aLstRg1 (aFn fnLen (aCons (aOp fIx (aVar 1) (aC (.int 0))) (aNil))))) [some (.loc 2), some (netV ns L), some wv, some (.lst (full.map nI)), none, none, none, none, none, none] H1 = .ok (.lst ((List.range ns.length).map nI)) H1 :=
    (aCut_ok (aLstRg1_ok (n := ns.length) (aFn_ok (aCons_ok (aOp_ok rfl rfl (net_0 _ _ _)) rfl) (lenT (by simp) _)) (by omega))).trans (finC_ext (frz_new (Nat.le_refl _) (getLast_app _ _) (low_nI _ _)))
  obtain ⟨B, eJ, nB, xB⟩ := aItS_lst (aVar 3) (sgG ns L wv full (List.range ns.length) H1.length none none none none) (H1 ++ [AO.lst ([].map nI)]) (H1 ++ [AO.lst ([].map nI)]) (full.map nI) rfl
  have hd : ∀ k, k < L.length ↔ k ∈ full := fun k => by
    have hr : k ∈ row ↔ k < L.length := by rw [prow.mem_iff]; simp
    show _ ↔ k ∈ ws ++ rst
    rw [List.mem_append, List.mem_filter]
    constructor
    · intro h
      by_cases c : k ∈ ws
      · exact .inl c
      · exact .inr ⟨hr.mpr h, by simp [c]⟩
    · rintro (a | a)
      · exact hws k a
      · exact hr.mp a.1
  obtain ⟨σ', g, eF, hs, tr, o6, o7, o8, o9, rfl, rfl, li⟩ := for_seq (a := B) (g := gN 6) (b := bdG) (full.map nI)
    (fun i σ g => ∃ (hs tr : List Nat) (o6 o7 o8 o9 : Option PV), σ = sgG ns L wv full hs H1.length o6 o7 o8 o9 ∧ g = H1 ++ [AO.lst (tr.map nI)] ∧ LI (edg L) ns.length (full.take i) tr hs) nB xB
    (σ := sgG ns L wv full (List.range ns.length) H1.length none none none none) (h := H1 ++ [AO.lst ([].map nI)]) ⟨_, [], none, none, none, none, rfl, rfl, by rw [List.take_zero]; exact LI.start _⟩
    (fun i x σ g ex ⟨hs, tr, o6, o7, o8, o9, e1, e2, li⟩ => by
      subst e1; subst e2
      rw [List.getElem?_map] at ex
      obtain ⟨k, ek, rfl⟩ := Option.map_eq_some_iff.mp ex
      have kl : k < L.length := (hd k).mpr (List.mem_of_getElem? ek)
      have zt : tr.length ≤ 1000 := by
        have := len_lt li.nd (n := L.length) fun q hq => (hd q).mpr (List.mem_of_mem_take (li.sub q hq))
        omega
      obtain ⟨hs', tr', p7, p8, eb, li'⟩ := grow_in N wv full (kk := H1.length) rfl li kl zt o7 o8 o9
      refine ⟨_, _, _, _, rfl, eb, hs', tr', _, _, _, _, rfl, rfl, ?_⟩
      have : full.take (i + 1) = full.take i ++ [k] := by rw [List.take_succ, ek]; rfl
      rw [this]; exact li')
  rw [List.length_map, List.take_length] at li
  have T := srt_tree (n := 0) N li hd
  have zt : tr.length < 64 := by
    have := len_lt li.nd (n := L.length) fun q hq => (hd q).mpr (li.sub q hq)
    omega
  refine ⟨srtN tr, h2, ?_, m4, T⟩
  have es : fnSortLT [.loc H1.length] (H1 ++ [AO.lst (tr.map nI)]) = .ok (.loc (H1 ++ [AO.lst (tr.map nI)]).length) (H1 ++ [AO.lst (tr.map nI)] ++ [AO.lst ((srtN tr).map nI)]) := fnSortLT_n (seqOf_loc (getLast_app _ _)) zt
  have ev : H1 ++ [AO.lst (tr.map nI)] ++ [AO.lst ((srtN tr).map nI)] = H1 ++ [AO.lst (tr.map nI), AO.lst ((srtN tr).map nI)] := by simp
  refine (mDef_rt (σ := sgG ns L wv full hs H1.length o6 o7 o8 o9) (h1 := H1 ++ [AO.lst (tr.map nI), AO.lst ((srtN tr).map nI)]) (v := .tup ((srtN tr).map nI)) ?_).trans (finC_mv t0 (m4.app _) (frz_below (low_nI _ _)))
  refine sSeq_ok (sSet_ok e3) (sSeq_ok (sSet_ok e4) ?_)
  refine sSeq_ok (σ1 := sgG ns L wv full (List.range ns.length) H1.length none none none none) (h1 := H1 ++ [AO.lst ([].map nI)]) (sSet_ok (aLst_ok rfl (by simp))) ?_
  refine sSeq_ok (sFor_ok eJ eF) ?_
  rw [← ev]
  exact sRet_ok (aFn_ok (aCons_ok (aFn_ok rfl es) rfl) (fnTuple_s (seqOf_loc (getLast_app _ _))))
end G20

/-! MY: dicts by naturals -/
namespace AB
open PySem PySem.Spec
open PyProof.Rows hiding St
open L2
abbrev kI (n : Nat) : Key := Sum.inl (n : Int)
def dN (found : List Nat) (f : Nat → PV) : List (Key × PV) := found.map fun p => (kI p, f p)
theorem kI_eq {a b : Nat} : kI a = kI b ↔ a = b := by
  constructor
  · intro h; have := Sum.inl.inj h; omega
  · rintro rfl; rfl
theorem valP_dN {f : Nat → PV} {p : Nat} : ∀ {found : List Nat}, valP (dN found f) (kI p) = if p ∈ found then some (f p) else none
  | [] => rfl
  | q :: r => by
    have ih := valP_dN (f := f) (p := p) (found := r)
    unfold valP dN at ih ⊢
    rw [List.map_cons, List.find?_cons]
    by_cases c : q = p
    · subst c; simp
    · have : decide (kI q = kI p) = false := decide_eq_false fun h => c (kI_eq.mp h)
      simp only [this]
      rw [ih]
      have : (p ∈ q :: r) ↔ p ∈ r := by simp [Ne.symm c]
      simp only [this]
theorem putP_dN {f : Nat → PV} {p : Nat} {v : PV} {found : List Nat} (hp : p ∉ found) : putP (dN found f) (kI p) v = dN (found ++ [p]) (fun q => if q = p then v else f q) := by
  unfold putP
  rw [if_neg]
  · unfold dN
    rw [List.map_append]
    congr 1
    · refine List.map_congr_left fun q hq => ?_
      have : ¬ q = p := fun c => hp (c ▸ hq)
      simp [this]
    · simp
  · intro c
    obtain ⟨x, hx, e⟩ := List.any_eq_true.mp c
    obtain ⟨q, hq, rfl⟩ := List.mem_map.mp hx
    exact hp ((kI_eq.mp (of_decide_eq_true e)) ▸ hq)
theorem dN_congr {f g : Nat → PV} {found : List Nat} (h : ∀ p ∈ found, f p = g p) : dN found f = dN found g := List.map_congr_left fun p hp => by rw [h p hp]
theorem fDnin_n {found : List Nat} {f : Nat → PV} {n p : Nat} {h : AH} (e : h[n]? = some (.dK (dN found f))) : fDnin (.int p) (.loc n) h = .ok (.bl (!decide (p ∈ found))) h := by
  unfold fDnin
  simp only [e, keyP]
  rw [show (Sum.inl (p : Int) : Key) = kI p from rfl, valP_dN]
  by_cases c : p ∈ found
  · rw [if_pos c]; simp [c]
  · rw [if_neg c]; simp [c]
theorem fDin_n {found : List Nat} {f : Nat → PV} {n p : Nat} {h : AH} (e : h[n]? = some (.dK (dN found f))) : fDin (.int p) (.loc n) h = .ok (.bl (decide (p ∈ found))) h := by
  unfold fDin
  simp only [e, keyP]
  rw [show (Sum.inl (p : Int) : Key) = kI p from rfl, valP_dN]
  by_cases c : p ∈ found
  · rw [if_pos c]; simp [c]
  · rw [if_neg c]; simp [c]
theorem fDget_n {found : List Nat} {f : Nat → PV} {n p : Nat} {h : AH} (e : h[n]? = some (.dK (dN found f))) (hp : p ∈ found) : fDget (.loc n) (.int p) h = .ok (f p) h := by
  unfold fDget
  simp only [e, keyP]
  rw [show (Sum.inl (p : Int) : Key) = kI p from rfl, valP_dN, if_pos hp]
theorem sDput_ok {mo mi mv : AE} {σ : ASt} {h h1 h2 h3 : AH} {v : PV} {n p : Nat} {found : List Nat} {f : Nat → PV} (ev : mv σ h = .ok v h1) (eo : mo σ h1 = .ok (.loc n) h2) (ei : mi σ h2 = .ok (.int p) h3) (e : h3[n]? = some (.dK (dN found f))) (hp : p ∉ found) (hz : found.length < 1000000) :
    sDput mo mi mv σ h = .fin .nx σ (h3.set n (.dK (dN (found ++ [p]) (fun q => if q = p then v else f q)))) := by
  unfold sDput
  rw [ev, liftS_ok', eo, liftS_ok', ei, liftS_ok']
  simp only [e, keyP]
  rw [if_pos (size_lt (by unfold dN; rw [List.length_map]; omega)), show (Sum.inl (p : Int) : Key) = kI p from rfl, putP_dN hp]
theorem aDict1_ok {mk mv : AE} {σ : ASt} {h : AH} {p : Nat} {v : PV} (ek : ∀ g, mk σ g = .ok (.int p) g) (ev : ∀ g, mv σ g = .ok v g) : aDict1 mk mv σ h = .ok (.loc h.length) (h ++ [AO.dK (dN [p] (fun _ => v))]) := by
  unfold aDict1
  rw [ek, Res.bind_ok, ev, Res.bind_ok]
  have e : (h ++ [AO.dK []])[h.length]? = some (.dK []) := getLast_app _ _
  simp only [keyP, e]
  rw [set_last]; rfl
theorem apN0 {h j : AH} {xs : List Nat} {y : Nat} {n : Nat} (e : h.length = n) (hz : xs.length < 1000000) : mAppend (.loc n) [nI y] (h ++ AO.lst (xs.map nI) :: j) = .ok .non (h ++ AO.lst ((xs ++ [y]).map nI) :: j) := by rw [ap0 e (by simpa using hz), List.map_append]; rfl
theorem apN1 {h j : AH} {a : AO} {xs : List Nat} {y : Nat} {n : Nat} (e : h.length = n) (hz : xs.length < 1000000) : mAppend (.loc (n + 1)) [nI y] (h ++ a :: AO.lst (xs.map nI) :: j) = .ok .non (h ++ a :: AO.lst ((xs ++ [y]).map nI) :: j) := by rw [ap1 e (by simpa using hz), List.map_append]; rfl
theorem apN2 {h j : AH} {a b : AO} {xs : List Nat} {y : Nat} {n : Nat} (e : h.length = n) (hz : xs.length < 1000000) : mAppend (.loc (n + 2)) [nI y] (h ++ a :: b :: AO.lst (xs.map nI) :: j) = .ok .non (h ++ a :: b :: AO.lst ((xs ++ [y]).map nI) :: j) := by rw [ap2 e (by simpa using hz), List.map_append]; rfl
theorem lcV (f : Nat → PV → Option PV) (P : Nat → Bool) (V : Nat → PV) (hf : ∀ i k, f i (nI k) = if P k = true then some (V k) else none) : ∀ (ks : List Nat) (j : Nat), ((ks.map nI).zipIdx j).filterMap (fun p => f p.2 p.1) = (ks.filter P).map V
  | [], _ => rfl
  | k :: ks, j => by
    rw [List.map_cons, List.zipIdx_cons, List.filterMap_cons, lcV f P V hf ks (j + 1), hf]
    by_cases c : P k = true
    · rw [if_pos c, List.filter_cons_of_pos c]; rfl
    · rw [if_neg c, List.filter_cons_of_neg c]
theorem ext0 {h j : AH} {xs ys : List PV} {n m : Nat} (e : h.length = n) (e2 : (h ++ AO.lst xs :: j)[m]? = some (.lst ys)) (hz : xs.length + ys.length ≤ 1000000) : mExtend (.loc n) [.loc m] (h ++ AO.lst xs :: j) = .ok .non (h ++ AO.lst (xs ++ ys) :: j) := by
  unfold mExtend AB.ownOf
  simp only [g0 e, lstOf_loc e2]
  rw [if_pos (size_ok hz), put_eq, p0 e]
theorem for_nx {a : AI} {g : AG} {b : AS} {n i : Nat} {σ σ1 σ2 : ASt} {h h1 h2 : AH} {x : PV} (ex : a.nxt i h = some (some x)) (eg : g x σ h = some (σ1, h1)) (eb : b σ1 h1 = .fin .nx σ2 h2) : forA a g b (n + 1) i σ h = forA a g b n (i + 1) σ2 h2 := by
  rw [forA]; simp only [ex, eg, eb]
theorem for_end {a : AI} {g : AG} {b : AS} {n i : Nat} {σ : ASt} {h : AH} (ex : a.nxt i h = some none) : forA a g b n i σ h = .fin .nx σ h := by
  unfold forA; simp only [ex]
open MG in
theorem srt_way {e : Nat → Nat × Nat} {ks : List Nat} (ss : ks.Pairwise (· ≤ ·)) (nk : ks.Nodup) (f : Fst e ks) {a b : Nat} {p : List Nat} (w : Way e ks a p b) (nd : p.Nodup) : srtN p = onW e ks a b :=
  srtN_of (w.perm nk f nd).symm (ss.filter _)
open MG in
theorem srt_ring {e : Nat → Nat × Nat} {ks : List Nat} (ss : ks.Pairwise (· ≤ ·)) (nk : ks.Nodup) (f : Fst e ks) {a b k : Nat} {p : List Nat} (w : Way e ks a p b) (nd : p.Nodup) (hk : k ∉ ks) : (srtN (p ++ [k])).filter (fun j => !decide (j = k)) = onW e ks a b := by
  have q := (srtN_perm (p ++ [k])).filter fun j => !decide (j = k)
  have e1 : (p ++ [k]).filter (fun j => !decide (j = k)) = p := by
    rw [List.filter_append]
    have : p.filter (fun j => !decide (j = k)) = p := List.filter_eq_self.mpr fun x hx => by
      have : x ≠ k := fun c => hk (c ▸ w.mem x hx)
      simp [this]
    rw [this]; simp
  rw [e1] at q
  have r : ((srtN (p ++ [k])).filter fun j => !decide (j = k)).Perm (onW e ks a b) := q.trans (w.perm nk f nd)
  exact List.Perm.eq_of_pairwise (le := fun (a b : Nat) => a ≤ b) (fun a b _ _ h1 h2 => by omega) ((srtN_le _).filter _) (ss.filter _) r
end AB

namespace G20
open PySem PySem.Spec
open PyProof.Rows hiding St
open L2 AB MG
def stF (L : List (Str × Nat × Nat)) (ks : List Nat) (p : Nat) : List (Nat × Nat) := ks.filterMap fun k => if (edg L k).1 = p then some (k, (edg L k).2) else if (edg L k).2 = p then some (k, (edg L k).1) else none
theorem stF_iff {L : List (Str × Nat × Nat)} {ks : List Nat} {p k q : Nat} (h : (k, q) ∈ stF L ks p) : k ∈ ks ∧ (edg L k = (p, q) ∨ edg L k = (q, p)) := by
  obtain ⟨j, hj, e⟩ := List.mem_filterMap.mp h
  obtain ⟨⟨a, b⟩, hab⟩ : ∃ x, edg L j = x := ⟨_, rfl⟩
  rw [hab] at e
  dsimp only at e
  split at e
  · rename_i c; cases e; exact ⟨hj, .inl (by rw [hab, c])⟩
  · split at e
    · rename_i c; cases e; exact ⟨hj, .inr (by rw [hab, c])⟩
    · cases e
theorem stF_cl {L : List (Str × Nat × Nat)} {ks found : List Nat} {p : Nat} (hp : p ∈ found) (h : ∀ x ∈ stF L ks p, x.2 ∈ found) : Cl (edg L) ks found p := fun k hk => by
  refine ⟨fun c => ?_, fun c => ?_⟩
  · exact h (k, (edg L k).2) (List.mem_filterMap.mpr ⟨k, hk, by rw [if_pos c]⟩)
  · by_cases d : (edg L k).1 = p
    · rw [d]; exact hp
    · exact h (k, (edg L k).1) (List.mem_filterMap.mpr ⟨k, hk, by rw [if_neg d, if_pos c]⟩)
abbrev bdJ : AS := (sSeq (sAsg (aCall 2 m_ends_of (aCons (aVar 0) (aCons (aVar 4) (aNil)))) (gTup' 2 (gCons' (gN 5) (gCons' (gN 6) (gNil'))))) (sIf (aB (aOp fEq (aVar 5) (aVar 2))) (sExpr (aM isL mAppend (aVar 3) (aCons (aTup (aCons (aVar 4) (aCons (aVar 6) (aNil)))) (aNil)))) (sIf (aB (aOp fEq (aVar 6) (aVar 2))) (sExpr (aM isL mAppend (aVar 3) (aCons (aTup (aCons (aVar 4) (aCons (aVar 5) (aNil)))) (aNil)))) (sNext))))
theorem steps {ns : List Str} {L : List (Str × Nat × Nat)} {ks : List Nat} (hk : ∀ k ∈ ks, k < L.length) (hz : ks.length ≤ 1000) (p : Nat) (h : AH) :
    m_steps_from [netV ns L, .tup (ks.map nI), .int p] h = .ok (.lst ((stF L ks p).map pairV)) h := by
  unfold m_steps_from b_steps_from
  let S : Option PV → Option PV → Option PV → ASt := fun o4 o5 o6 => [some (netV ns L), some (.tup (ks.map nI)), some (.int p), some (.loc h.length), o4, o5, o6]
  obtain ⟨σ', g, eF, o4, o5, o6, rfl, rfl⟩ := for_vals (g := gN 4) (b := bdJ) (ks.map nI)
    (fun i σ g => ∃ o4 o5 o6, σ = S o4 o5 o6 ∧ g = h ++ [AO.lst ((stF L (ks.take i) p).map pairV)]) (σ := S none none none) (h := h ++ [AO.lst []]) ⟨none, none, none, rfl, by rw [List.take_zero]; rfl⟩
    (fun i x σ g ex ⟨o4, o5, o6, e1, e2⟩ => by
      subst e1; subst e2
      rw [List.getElem?_map] at ex
      obtain ⟨k, ek, rfl⟩ := Option.map_eq_some_iff.mp ex
      have kl := hk k (List.mem_of_getElem? ek)
      have et : ks.take (i + 1) = ks.take i ++ [k] := by rw [List.take_succ, ek]; rfl
      let T := stF L (ks.take i) p
      have lT : T.length ≤ 1000 := by
        have h1 : T.length ≤ (ks.take i).length := List.length_filterMap_le _ _
        have h2 : (ks.take i).length ≤ ks.length := by rw [List.length_take]; omega
        omega
      obtain ⟨⟨a, b⟩, hab⟩ : ∃ x, edg L k = x := ⟨_, rfl⟩
      have eo := ends_of (ns := ns) kl (h ++ [AO.lst (T.map pairV)])
      rw [hab] at eo
      have s1 : (sAsg (aCall 2 m_ends_of (aCons (aVar 0) (aCons (aVar 4) (aNil)))) (gTup' 2 (gCons' (gN 5) (gCons' (gN 6) (gNil'))))) (S (some (nI k)) o5 o6) (h ++ [AO.lst (T.map pairV)]) = .fin .nx (S (some (nI k)) (some (.int a)) (some (.int b))) (h ++ [AO.lst (T.map pairV)]) := sAsg_ok (aCall_ok rfl rfl eo) rfl
      have ap : ∀ q : Nat, mAppend (.loc h.length) [.tup [nI k, .int q]] (h ++ [AO.lst (T.map pairV)]) = .ok .non (h ++ [AO.lst ((T ++ [(k, q)]).map pairV)]) := fun q => by
        rw [ap0 rfl (by simp; omega)]; simp [pairV]
      have ec1 : (aB (aOp fEq (aVar 5) (aVar 2))) (S (some (nI k)) (some (.int a)) (some (.int b))) (h ++ [AO.lst (T.map pairV)]) = .ok (decide ((a : Int) = p)) (h ++ [AO.lst (T.map pairV)]) := aB_ok (aOp_ok rfl rfl (fEq_i _ _ _))
      have ec2 : (aB (aOp fEq (aVar 6) (aVar 2))) (S (some (nI k)) (some (.int a)) (some (.int b))) (h ++ [AO.lst (T.map pairV)]) = .ok (decide ((b : Int) = p)) (h ++ [AO.lst (T.map pairV)]) := aB_ok (aOp_ok rfl rfl (fEq_i _ _ _))
      have res : ∀ T', stF L (ks.take (i + 1)) p = T' → bdJ (S (some (nI k)) o5 o6) (h ++ [AO.lst (T.map pairV)]) = .fin .nx (S (some (nI k)) (some (.int a)) (some (.int b))) (h ++ [AO.lst (T'.map pairV)]) → ∃ σ1 h1 σ2 h2, gN 4 (nI k) (S o4 o5 o6) (h ++ [AO.lst (T.map pairV)]) = some (σ1, h1) ∧ bdJ σ1 h1 = .fin .nx σ2 h2 ∧ ∃ o4 o5 o6, σ2 = S o4 o5 o6 ∧ h2 = h ++ [AO.lst ((stF L (ks.take (i + 1)) p).map pairV)] := fun T' e1 e2 => ⟨_, _, _, _, rfl, e2, _, _, _, rfl, by rw [e1]⟩
      have app : stF L (ks.take (i + 1)) p = T ++ stF L [k] p := by rw [et]; unfold stF; rw [List.filterMap_append]; rfl
      by_cases c : a = p
      · rw [decide_eq_true (by omega)] at ec1
        refine res (T ++ [(k, b)]) (by rw [app]; simp [stF, hab, c]) ?_
        refine sSeq_ok s1 ?_
        refine (sIf_t ec1).trans ?_
        exact sExpr_ok (aM_ok rfl (isL0 rfl) (aCons_ok (aTup_ok rfl (by simp)) rfl) (ap b))
      · rw [decide_eq_false (by omega)] at ec1
        by_cases d : b = p
        · rw [decide_eq_true (by omega)] at ec2
          refine res (T ++ [(k, a)]) (by rw [app]; simp [stF, hab, c, d]) ?_
          refine sSeq_ok s1 ?_
          refine (sIf_f ec1).trans ?_
          refine (sIf_t ec2).trans ?_
          exact sExpr_ok (aM_ok rfl (isL0 rfl) (aCons_ok (aTup_ok rfl (by simp)) rfl) (ap a))
        · rw [decide_eq_false (by omega)] at ec2
          refine res T (by rw [app]; simp [stF, hab, c, d]) ?_
          refine sSeq_ok s1 ?_
          refine (sIf_f ec1).trans ?_
          exact (sIf_f ec2).trans rfl)
  have et : ks.take (ks.map nI).length = ks := by simp
  rw [et] at eF
  refine (mDef_rt (σ := S o4 o5 o6) (h1 := h ++ [AO.lst ((stF L ks p).map pairV)]) (v := .loc h.length) ?_).trans (finC_ext (frz_new (Nat.le_refl _) (getLast_app _ _) (low_pairs _ _)))
  refine sSeq_ok (sSet_ok (aLst_ok rfl (by simp))) ?_
  exact sSeq_ok (sFor_ok (a := itVals (ks.map nI)) (aItS_tup (aVar 1) _ _ _ (ks.map nI) rfl) eF) rfl
end G20

namespace G20
open PySem PySem.Spec
open PyProof.Rows hiding St
open L2 AB MG
def CI (a : Nat) (found : List Nat) (W : Nat → List Nat) (C : Nat → Option (Nat × Nat)) : Prop := ∀ p ∈ found, (p = a ∧ C p = none) ∨ ∃ q s, q ∈ found ∧ C p = some (q, s) ∧ W p = W q ++ [s]
theorem CI.step {a : Nat} {found : List Nat} {W : Nat → List Nat} {C : Nat → Option (Nat × Nat)} (c : CI a found W C) {here far k : Nat} (hh : here ∈ found) (hf : far ∉ found) : CI a (found ++ [far]) (putW W far (W here ++ [k])) (fun p => if p = far then some (here, k) else C p) := fun p hp => by
  have ne : ∀ q ∈ found, q ≠ far := fun q hq c => hf (c ▸ hq)
  rcases List.mem_append.mp hp with hp | hp
  · have hne := ne p hp
    rcases c p hp with ⟨h1, h2⟩ | ⟨q, s, h1, h2, h3⟩
    · exact .inl ⟨h1, by simp [hne, h2]⟩
    · exact .inr ⟨q, s, List.mem_append_left _ h1, by simp [hne, h2], by simp [putW, hne, ne q h1, h3]⟩
  · rw [List.mem_singleton] at hp; subst hp
    exact .inr ⟨here, k, List.mem_append_left _ hh, by simp, by simp [putW, ne here hh]⟩
def cv (o : Option (Nat × Nat)) : PV := match o with
  | none => .non
  | some (q, s) => .tup [.int q, .int s]
def hK (h : AH) (found : List Nat) (C : Nat → Option (Nat × Nat)) : AH := h ++ AO.dK (dN found fun p => cv (C p)) :: [AO.lst (found.map nI)]
def sgK (N : PV) (ks : List Nat) (a b d at' : Nat) (o7 o8 o9 o10 : Option PV) : ASt := [some N, some (.tup (ks.map nI)), some (.int a), some (.int b), some (.loc d), some (.loc (d + 1)), some (.int at'), o7, o8, o9, o10]
abbrev bdK : AS := (sIf (aB (aOp fDnin (aVar 9) (aVar 4))) (sSeq (sDput (aVar 4) (aVar 9) (aTup (aCons (aVar 7) (aCons (aVar 8) (aNil))))) (sExpr (aM isL mAppend (aVar 5) (aCons (aVar 9) (aNil))))) (sNext))
theorem way_in {h : AH} {L : List (Str × Nat × Nat)} {n : Nat} (lt : LtN n L) {ks : List Nat} (hk : ∀ k ∈ ks, k < L.length) (N : PV) (a b at' here : Nat) {A : AI} (nA : A.n = ((stF L ks here).map pairV).length) (xA : ∀ i g, A.nxt i g = some ((stF L ks here).map pairV)[i]?)
    {F : List Nat} {W : Nat → List Nat} {C : Nat → Option (Nat × Nat)} (s : Srch (edg L) ks a F W) (ci : CI a F W C) (fn : ∀ p ∈ F, p < n) (hz : n ≤ 1000) (hh : here ∈ F) (o8 o9 o10 : Option PV) :
    ∃ (F' : List Nat) (W' : Nat → List Nat) (C' : Nat → Option (Nat × Nat)) (p8 p9 : Option PV), forA A (gTup' 2 (gCons' (gN 8) (gCons' (gN 9) (gNil')))) bdK A.n 0 (sgK N ks a b h.length at' (some (.int here)) o8 o9 o10) (hK h F C) = .fin .nx (sgK N ks a b h.length at' (some (.int here)) p8 p9 o10) (hK h F' C') ∧
      Srch (edg L) ks a F' W' ∧ CI a F' W' C' ∧ (∀ p ∈ F', p < n) ∧ (∃ u, F' = F ++ u) ∧ Cl (edg L) ks F' here := by
  obtain ⟨σ', g, eF, F', W', C', p8, p9, rfl, rfl, s', ci', fn', ⟨u, hu⟩, cl⟩ := for_seq (a := A) (g := gTup' 2 (gCons' (gN 8) (gCons' (gN 9) (gNil')))) (b := bdK) ((stF L ks here).map pairV)
    (fun i σ g => ∃ (F' : List Nat) (W' : Nat → List Nat) (C' : Nat → Option (Nat × Nat)) (p8 p9 : Option PV), σ = sgK N ks a b h.length at' (some (.int here)) p8 p9 o10 ∧ g = hK h F' C' ∧ Srch (edg L) ks a F' W' ∧ CI a F' W' C' ∧ (∀ p ∈ F', p < n) ∧ (∃ u, F' = F ++ u) ∧ ∀ (j : Nat) (x : Nat × Nat), j < i → (stF L ks here)[j]? = some x → x.2 ∈ F') nA xA
    (σ := sgK N ks a b h.length at' (some (.int here)) o8 o9 o10) (h := hK h F C) ⟨F, W, C, o8, o9, rfl, rfl, s, ci, fn, ⟨[], by simp⟩, fun j x hj => by omega⟩
    (fun i x σ g ex ⟨F', W', C', p8, p9, e1, e2, s', ci', fn', ⟨u, hu⟩, cl⟩ => by
      subst e1; subst e2
      rw [List.getElem?_map] at ex
      obtain ⟨⟨k, q⟩, ek, rfl⟩ := Option.map_eq_some_iff.mp ex
      have hin := stF_iff (List.mem_of_getElem? ek)
      have hh' : here ∈ F' := by rw [hu]; exact List.mem_append_left _ hh
      have hl : F'.length ≤ n := len_lt s'.nd fn'
      let σ1 := sgK N ks a b h.length at' (some (.int here)) (some (.int k)) (some (.int q)) o10
      have ec : (aB (aOp fDnin (aVar 9) (aVar 4))) σ1 (hK h F' C') = .ok (!decide (q ∈ F')) (hK h F' C') := aB_ok (aOp_ok rfl rfl (fDnin_n (g0 rfl)))
      by_cases c : q ∈ F'
      · rw [decide_eq_true c] at ec
        refine ⟨σ1, _, σ1, hK h F' C', rfl, (sIf_f ec).trans rfl, F', W', C', _, _, rfl, rfl, s', ci', fn', ⟨u, hu⟩, fun j x hj hx => ?_⟩
        by_cases d : j < i
        · exact cl j x d hx
        · have : j = i := by omega
          subst this
          rw [ek] at hx; cases hx; exact c
      · rw [decide_eq_false c] at ec
        let C2 : Nat → Option (Nat × Nat) := fun p => if p = q then some (here, k) else C' p
        have fe : (fun p => if p = q then PV.tup [.int here, .int k] else cv (C' p)) = fun p => cv (C2 p) := funext fun p => by
          show _ = cv (if p = q then some (here, k) else C' p)
          by_cases d : p = q
          · rw [if_pos d, if_pos d]; rfl
          · rw [if_neg d, if_neg d]
        have e6 : (sDput (aVar 4) (aVar 9) (aTup (aCons (aVar 7) (aCons (aVar 8) (aNil))))) σ1 (hK h F' C') = .fin .nx σ1 (h ++ AO.dK (dN (F' ++ [q]) fun p => cv (C2 p)) :: [AO.lst (F'.map nI)]) := by
          rw [sDput_ok (n := h.length) (p := q) (v := .tup [.int here, .int k]) (aTup_ok rfl (by simp)) rfl rfl (g0 rfl) c (by omega), fe]
          show SRes.fin Fl.nx σ1 ((h ++ AO.dK (dN F' fun p => cv (C' p)) :: [AO.lst (F'.map nI)]).set h.length _) = _
          rw [p0 rfl]
        have e7 : (sExpr (aM isL mAppend (aVar 5) (aCons (aVar 9) (aNil)))) σ1 (h ++ AO.dK (dN (F' ++ [q]) fun p => cv (C2 p)) :: [AO.lst (F'.map nI)]) = .fin .nx σ1 (hK h (F' ++ [q]) C2) := by
          exact sExpr_ok (aM_ok rfl (isL1 rfl) rfl (apN1 rfl (by omega)))
        have qn : q < n := by
          have := edg_lt lt (hk k hin.1)
          rcases hin.2 with h | h <;> rw [h] at this
          · exact this.2
          · exact this.1
        refine ⟨σ1, _, σ1, hK h (F' ++ [q]) C2, rfl, by { refine (sIf_t ec).trans ?_; refine sSeq_ok e6 ?_; exact e7 }, F' ++ [q], putW W' q (W' here ++ [k]), C2, _, _, rfl, rfl, s'.step hh' hin.1 hin.2 c, ci'.step hh' c, fun p hp => ?_, ⟨u ++ [q], by rw [hu]; simp⟩, fun j x hj hx => ?_⟩
        · rcases List.mem_append.mp hp with hp | hp
          · exact fn' p hp
          · rw [List.mem_singleton] at hp; subst hp; exact qn
        · by_cases d : j < i
          · exact List.mem_append_left _ (cl j x d hx)
          · have : j = i := by omega
            subst this
            rw [ek] at hx; cases hx; simp)
  rw [List.length_map] at cl
  have hh' : here ∈ F' := by rw [hu]; exact List.mem_append_left _ hh
  exact ⟨F', W', C', p8, p9, eF, s', ci', fn', ⟨u, hu⟩, stF_cl hh' fun x hx => by
    obtain ⟨j, hj⟩ := List.getElem?_of_mem hx
    exact cl j x (List.getElem?_eq_some_iff.mp hj).1 hj⟩
theorem way_along {ns : List Str} {L : List (Str × Nat × Nat)} (lt : LtN ns.length L) (n10 : ns.length ≤ 10) {ks : List Nat} (hk : ∀ k ∈ ks, k < L.length) (hz : ks.length ≤ 1000) {a b : Nat} (ha : a < ns.length) (j : Jn (edg L) ks a b) (h : AH) :
    ∃ p, m_way_along [netV ns L, .tup (ks.map nI), .int a, .int b] h = .ok (.tup (p.map nI)) h ∧ Way (edg L) ks a p b ∧ p.Nodup := by
  unfold m_way_along b_way_along
  let N := netV ns L
  have loop := while_rule (c := aB (aOp fLt (aVar 6) (aFn fnLen (aCons (aVar 5) (aNil))))) (b := sSeq (sSet 7 (aOp fIx (aVar 5) (aVar 6))) (sSeq (sAug 6 fIAdd (aC (.int 1))) (sFor (aItS (aCall 3 m_steps_from (aCons (aVar 0) (aCons (aVar 1) (aCons (aVar 7) (aNil)))))) (gTup' 2 (gCons' (gN 8) (gCons' (gN 9) (gNil')))) bdK)))
    (fun σ g => ∃ (F : List Nat) (W : Nat → List Nat) (C : Nat → Option (Nat × Nat)) (at' : Nat) (o7 o8 o9 : Option PV), σ = sgK N ks a b h.length at' o7 o8 o9 none ∧ g = hK h F C ∧ Srch (edg L) ks a F W ∧ CI a F W C ∧ (∀ p ∈ F, p < ns.length) ∧ at' ≤ F.length ∧ ∀ (j p : Nat), j < at' → F[j]? = some p → Cl (edg L) ks F p)
    (fun σ _ => match σ[6]? with | some (some (PV.int a)) => 11 - a.toNat | _ => 0)
    (fun r => ∃ (F : List Nat) (W : Nat → List Nat) (C : Nat → Option (Nat × Nat)) (at' : Nat) (o7 o8 o9 : Option PV), r = .fin .nx (sgK N ks a b h.length at' o7 o8 o9 none) (hK h F C) ∧ Srch (edg L) ks a F W ∧ CI a F W C ∧ (∀ p ∈ F, Cl (edg L) ks F p))
    (fun σ g ⟨F, W, C, at', o7, o8, o9, e1, e2, s, ci, fn, hat, cl⟩ => by
      subst e1; subst e2
      have hl : F.length ≤ ns.length := len_lt s.nd fn
      have eln : fnLen [.loc (h.length + 1)] (hK h F C) = .ok (.int F.length) (hK h F C) := by
        have := len1 (h := h) (j := []) (a := AO.dK (dN F fun p => cv (C p))) (xs := F.map nI) rfl
        rw [List.length_map] at this; exact this
      have ec : (aB (aOp fLt (aVar 6) (aFn fnLen (aCons (aVar 5) (aNil))))) (sgK N ks a b h.length at' o7 o8 o9 none) (hK h F C) = .ok (decide ((at' : Int) < F.length)) (hK h F C) := aB_ok (aOp_ok rfl (aFn_ok rfl eln) (fLt_i _ _ _))
      by_cases c : at' < F.length
      · rw [decide_eq_true (by omega)] at ec
        have gp : F[at']? = some F[at'] := List.getElem?_eq_getElem c
        have hm : F[at'] ∈ F := List.getElem_mem c
        let σ2 := sgK N ks a b h.length (at' + 1) (some (.int F[at'])) o8 o9 none
        obtain ⟨A, eA, nA, xA⟩ := aItS_lst (aCall 3 m_steps_from (aCons (aVar 0) (aCons (aVar 1) (aCons (aVar 7) (aNil))))) σ2 (hK h F C) (hK h F C) ((stF L ks F[at']).map pairV) (aCall_ok rfl rfl (steps hk hz _ _))
        obtain ⟨F', W', C', p8, p9, eF, s', ci', fn', ⟨u, hu⟩, cl'⟩ := way_in lt hk N a b (at' + 1) F[at'] nA xA s ci fn (by omega) hm o8 o9 none
        have e5 : fIx (.loc (h.length + 1)) (.int at') (hK h F C) = .ok (.int F[at']) (hK h F C) := fIx_loc (g1 rfl) (nI_get gp)
        have e7 : (sSet 7 (aOp fIx (aVar 5) (aVar 6))) (sgK N ks a b h.length at' o7 o8 o9 none) (hK h F C) = .fin .nx (sgK N ks a b h.length at' (some (.int F[at'])) o8 o9 none) (hK h F C) := sSet_ok (aOp_ok rfl rfl e5)
        have e8 : (sAug 6 fIAdd (aC (.int 1))) (sgK N ks a b h.length at' (some (.int F[at'])) o8 o9 none) (hK h F C) = .fin .nx σ2 (hK h F C) := rfl
        have e9 : (sFor (aItS (aCall 3 m_steps_from (aCons (aVar 0) (aCons (aVar 1) (aCons (aVar 7) (aNil)))))) (gTup' 2 (gCons' (gN 8) (gCons' (gN 9) (gNil')))) bdK) σ2 (hK h F C) = _ := sFor_ok eA eF
        have up : ∀ q, q ∈ F → q ∈ F' := fun q hq => by rw [hu]; exact List.mem_append_left _ hq
        refine .inr ⟨_, ec, .inl ⟨_, _, .inl (by { refine sSeq_ok e7 ?_; refine sSeq_ok e8 ?_; exact e9 }), ⟨F', W', C', at' + 1, _, _, _, rfl, rfl, s', ci', fn', by rw [hu, List.length_append]; omega, fun j p hj hp => ?_⟩, ?_⟩⟩
        · by_cases d : j < at'
          · have hp' : F[j]? = some p := by rw [hu, List.getElem?_append_left (by omega)] at hp; exact hp
            exact (cl j p d hp').mono up
          · have : j = at' := by omega
            subst this
            have : p = F[j] := by rw [hu, List.getElem?_append_left c, gp] at hp; cases hp; rfl
            subst this
            exact cl'
        · show 11 - ((at' + 1 : Nat) : Int).toNat < 11 - ((at' : Nat) : Int).toNat
          omega
      · rw [decide_eq_false (by omega)] at ec
        refine .inl ⟨_, ec, F, W, C, at', o7, o8, o9, rfl, s, ci, fun p hp => ?_⟩
        obtain ⟨j, hj⟩ := List.getElem?_of_mem hp
        exact cl j p (by have := (List.getElem?_eq_some_iff.mp hj).1; omega) hj)
    (σ := sgK N ks a b h.length 0 none none none none) (h := hK h [a] (fun _ => none)) ⟨[a], fun _ => [], fun _ => none, 0, none, none, none, rfl, rfl, Srch.start ks a, fun p hp => .inl ⟨by simpa using hp, rfl⟩, fun p hp => by rw [List.mem_singleton] at hp; subst hp; exact ha, by simp, fun j p hj => by omega⟩
  obtain ⟨F, W, C, at', o7, o8, o9, eW, s, ci, cl⟩ := loop
  have hb : b ∈ F := s.all cl j
  obtain ⟨w1, w2, _⟩ := s.way b hb
  refine ⟨W b, ?_, w1, w2⟩
  let S2 : Nat → Option PV → ASt := fun x o8 => [some N, some (.tup (ks.map nI)), some (.int a), some (.int x), some (.loc h.length), some (.loc (h.length + 1)), some (.int at'), o7, o8, o9, some (.loc (h.length + 2))]
  let H2 : List Nat → AH := fun p => h ++ AO.dK (dN F fun p => cv (C p)) :: AO.lst (F.map nI) :: [AO.lst (p.map nI)]
  have wl : ∀ p ∈ F, (W p).length ≤ ks.length := fun p hp => by
    have q := s.way p hp
    exact q.2.1.length_le_of_subset (fun k hk => q.1.mem k hk)
  have back := while_rule (c := aB (aOp fNotN (aOp fDget (aVar 4) (aVar 3)) (aC .non))) (b := sSeq (sAsg (aOp fDget (aVar 4) (aVar 3)) (gTup' 2 (gCons' (gN 3) (gCons' (gN 8) (gNil'))))) (sExpr (aM isL mAppend (aVar 10) (aCons (aVar 8) (aNil)))))
    (fun σ g => ∃ (x : Nat) (o8 : Option PV) (p : List Nat), σ = S2 x o8 ∧ g = H2 p ∧ x ∈ F ∧ W b = W x ++ p.reverse)
    (fun σ _ => match σ[3]? with | some (some (PV.int x)) => (W x.toNat).length | _ => 0)
    (fun r => ∃ (x : Nat) (o8 : Option PV), r = .fin .nx (S2 x o8) (H2 (W b).reverse))
    (fun σ g ⟨x, o8, p, e1, e2, hx, hw⟩ => by
      subst e1; subst e2
      have eg : fDget (.loc h.length) (.int x) (H2 p) = .ok (cv (C x)) (H2 p) := fDget_n (g0 rfl) hx
      rcases ci x hx with ⟨h1, h2⟩ | ⟨q, k, hq, h2, h3⟩
      · have ec : (aB (aOp fNotN (aOp fDget (aVar 4) (aVar 3)) (aC .non))) (S2 x o8) (H2 p) = .ok false (H2 p) := aB_ok (aOp_ok (aOp_ok rfl rfl eg) rfl (by rw [h2]; rfl))
        refine .inl ⟨_, ec, x, o8, ?_⟩
        rw [hw, h1, s.wa, List.nil_append, List.reverse_reverse]
      · have ec : (aB (aOp fNotN (aOp fDget (aVar 4) (aVar 3)) (aC .non))) (S2 x o8) (H2 p) = .ok true (H2 p) := aB_ok (aOp_ok (aOp_ok rfl rfl eg) rfl (by rw [h2]; rfl))
        have e6 : (sAsg (aOp fDget (aVar 4) (aVar 3)) (gTup' 2 (gCons' (gN 3) (gCons' (gN 8) (gNil'))))) (S2 x o8) (H2 p) = .fin .nx (S2 q (some (.int k))) (H2 p) := sAsg_ok (v := .tup [.int q, .int k]) (aOp_ok rfl rfl (by rw [eg, h2]; rfl)) rfl
        have lp : p.length ≤ 1000 := by
          have z := wl b hb
          rw [hw, List.length_append, List.length_reverse] at z; omega
        have e7 : (sExpr (aM isL mAppend (aVar 10) (aCons (aVar 8) (aNil)))) (S2 q (some (.int k))) (H2 p) = .fin .nx (S2 q (some (.int k))) (H2 (p ++ [k])) := by
          exact sExpr_ok (aM_ok rfl (isL2 rfl) rfl (apN2 rfl (by omega)))
        refine .inr ⟨_, ec, .inl ⟨S2 q (some (.int k)), H2 (p ++ [k]), .inl (by { refine sSeq_ok e6 ?_; exact e7 }), ⟨q, _, p ++ [k], rfl, rfl, hq, by rw [hw, h3]; simp⟩, ?_⟩⟩
        show (W ((q : Nat) : Int).toNat).length < (W ((x : Nat) : Int).toNat).length
        rw [Int.toNat_natCast, Int.toNat_natCast, h3]; simp)
    (σ := S2 b o8) (h := H2 []) ⟨b, o8, [], rfl, rfl, hb, by simp⟩
  obtain ⟨x, p8, eB⟩ := back
  have elow : (PV.tup ((W b).map nI)).low h.length = true := low_nI _ _
  refine (mDef_rt (σ := S2 x p8) (h1 := h ++ (AO.dK (dN F fun p => cv (C p)) :: AO.lst (F.map nI) :: [AO.lst ((W b).reverse.map nI), AO.lst ((W b).map nI)])) (v := .tup ((W b).map nI)) ?_).trans (finC_ext (frz_below elow))
  have d1 : (sSet 4 (aDict1 (aVar 2) (aC .non))) (startA 11 [netV ns L, .tup (ks.map nI), .int a, .int b]) h = .fin .nx [some N, some (.tup (ks.map nI)), some (.int a), some (.int b), some (.loc h.length), none, none, none, none, none, none] (h ++ [AO.dK (dN [a] fun _ => .non)]) := sSet_ok (aDict1_ok (fun _ => rfl) fun _ => rfl)
  have d2 : (sSet 5 (aLst (aCons (aVar 2) (aNil)))) [some N, some (.tup (ks.map nI)), some (.int a), some (.int b), some (.loc h.length), none, none, none, none, none, none] (h ++ [AO.dK (dN [a] fun _ => .non)]) = .fin .nx [some N, some (.tup (ks.map nI)), some (.int a), some (.int b), some (.loc h.length), some (.loc (h.length + 1)), none, none, none, none, none] (hK h [a] fun _ => none) := by
    refine (sSet_ok (aLst_ok (xs := [.int a]) rfl (by simp))).trans ?_
    rw [snoc_app, List.length_append]; rfl
  refine sSeq_ok d1 ?_
  refine sSeq_ok d2 ?_
  refine sSeq_ok (σ1 := sgK N ks a b h.length 0 none none none none) (h1 := hK h [a] fun _ => none) (sSet_ok rfl) ?_
  refine sSeq_ok eW ?_
  have ec : (aB (aOp fDnin (aVar 3) (aVar 4))) (sgK N ks a b h.length at' o7 o8 o9 none) (hK h F C) = .ok (!decide (b ∈ F)) (hK h F C) := aB_ok (aOp_ok rfl rfl (fDnin_n (g0 rfl)))
  rw [decide_eq_true hb] at ec
  refine sSeq_ok (σ1 := sgK N ks a b h.length at' o7 o8 o9 none) (h1 := hK h F C) ((sIf_f ec).trans rfl) ?_
  have d3 : (sSet 10 (aLst aNil)) (sgK N ks a b h.length at' o7 o8 o9 none) (hK h F C) = .fin .nx (S2 b o8) (H2 []) := by
    refine (sSet_ok (aLst_ok (xs := []) rfl (by simp))).trans ?_
    unfold hK
    rw [List.append_assoc, List.length_append]; rfl
  refine sSeq_ok d3 ?_
  refine sSeq_ok eB ?_
  have er : fRev (.loc (h.length + 2)) (H2 (W b).reverse) = .ok (.loc (H2 (W b).reverse).length) (H2 (W b).reverse ++ [AO.lst ((W b).map nI)]) := by
    unfold fRev
    rw [lstOf_loc (g2 rfl)]
    show Res.ok _ (_ ++ [AO.lst ((W b).reverse.map nI).reverse]) = _
    rw [List.map_reverse, List.reverse_reverse]
  have es : H2 (W b).reverse ++ [AO.lst ((W b).map nI)] = h ++ (AO.dK (dN F fun p => cv (C p)) :: AO.lst (F.map nI) :: [AO.lst ((W b).reverse.map nI), AO.lst ((W b).map nI)]) := by simp [H2]
  rw [← es]
  refine sRet_ok (aFn_ok (aCons_ok (x := .loc (H2 (W b).reverse).length) (h1 := H2 (W b).reverse ++ [AO.lst ((W b).map nI)]) ?_ rfl) (fnTuple_s (seqOf_loc (getLast_app _ _))))
  rw [aUn_eq]
  show (Res.ok (PV.loc (h.length + 2)) (H2 (W b).reverse)).bind _ = _
  rw [Res.bind_ok, er]
end G20

namespace G20
open PySem PySem.Spec
open PyProof.Rows hiding St
open L2 AB MG
theorem tAnd_t {a b : AT} {σ : ASt} {h h1 : AH} (e : a σ h = .ok true h1) : tAnd a b σ h = b σ h1 := by rw [tAnd_eq, e]; rfl
theorem tAnd_f {a b : AT} {σ : ASt} {h h1 : AH} (e : a σ h = .ok false h1) : tAnd a b σ h = .ok false h1 := by rw [tAnd_eq, e]; rfl
def hL (h : AH) (F : List Nat) (W : Nat → List Nat) (todo : List Nat) : AH := h ++ AO.dK (dN F fun p => .tup ((W p).map nI)) :: [AO.lst (todo.map nI)]
def sgW (N : PV) (ks : List Nat) (a b d : Nat) (o6 o7 o8 o9 o10 o11 : Option PV) : ASt := [some N, some (.tup (ks.map nI)), some (.int a), some (.int b), some (.loc d), some (.loc (d + 1)), o6, o7, o8, o9, o10, o11]
abbrev bdL : AS := (sIf (tAnd (aB (aOp fEq (aVar 10) (aVar 6))) (aB (aOp fDnin (aVar 11) (aVar 4)))) (sSeq (sDput (aVar 4) (aVar 11) (aOp fAdd (aOp fDget (aVar 4) (aVar 6)) (aTup (aCons (aVar 7) (aNil))))) (sExpr (aM isL mAppend (aVar 5) (aCons (aVar 11) (aNil))))) (sNext))
theorem lw_step {h : AH} {L : List (Str × Nat × Nat)} {n : Nat} (hz : n ≤ 1000) {ks : List Nat} (kz : ks.length ≤ 1000) (N : PV) (a b here : Nat) (o8 o9 : Option PV) {F todo : List Nat} {W : Nat → List Nat} (s : Srch (edg L) ks a F W) (hh : here ∈ F) (fn : ∀ p ∈ F, p < n) (tz : todo.length ≤ 1000)
    {k near far : Nat} (hk : k ∈ ks) (j : edg L k = (near, far) ∨ edg L k = (far, near)) (hf : far < n) :
    ∃ (u : List Nat) (W' : Nat → List Nat), bdL (sgW N ks a b h.length (some (.int here)) (some (nI k)) o8 o9 (some (.int near)) (some (.int far))) (hL h F W todo) = .fin .nx (sgW N ks a b h.length (some (.int here)) (some (nI k)) o8 o9 (some (.int near)) (some (.int far))) (hL h (F ++ u) W' (todo ++ u)) ∧
      Srch (edg L) ks a (F ++ u) W' ∧ (∀ p ∈ F ++ u, p < n) ∧ (near = here → far ∈ F ++ u) := by
  let σ := sgW N ks a b h.length (some (.int here)) (some (nI k)) o8 o9 (some (.int near)) (some (.int far))
  have hl : F.length ≤ n := len_lt s.nd fn
  have e1 : (aB (aOp fEq (aVar 10) (aVar 6))) σ (hL h F W todo) = .ok (decide ((near : Int) = here)) (hL h F W todo) := aB_ok (aOp_ok rfl rfl (fEq_i _ _ _))
  have e2 : (aB (aOp fDnin (aVar 11) (aVar 4))) σ (hL h F W todo) = .ok (!decide (far ∈ F)) (hL h F W todo) := aB_ok (aOp_ok rfl rfl (fDnin_n (g0 rfl)))
  by_cases c : near = here
  · rw [decide_eq_true (by omega)] at e1
    by_cases d : far ∈ F
    · rw [decide_eq_true d] at e2
      refine ⟨[], W, ?_, by simpa using s, by simpa using fn, fun _ => by simpa using d⟩
      rw [List.append_nil, List.append_nil]
      exact (sIf_f ((tAnd_t e1).trans e2)).trans rfl
    · rw [decide_eq_false d] at e2
      subst c
      have wl : (W near).length ≤ ks.length := (s.way near hh).2.1.length_le_of_subset (fun k hk => (s.way near hh).1.mem k hk)
      let W' := putW W far (W near ++ [k])
      have fe : (fun q => if q = far then PV.tup ((W near).map nI ++ [nI k]) else PV.tup ((W q).map nI)) = fun p => .tup ((W' p).map nI) := funext fun p => by
        show _ = PV.tup ((if p = far then W near ++ [k] else W p).map nI)
        by_cases z : p = far
        · rw [if_pos z, if_pos z, List.map_append]; rfl
        · rw [if_neg z, if_neg z]
      have e6 : (sDput (aVar 4) (aVar 11) (aOp fAdd (aOp fDget (aVar 4) (aVar 6)) (aTup (aCons (aVar 7) (aNil))))) σ (hL h F W todo) = .fin .nx σ (h ++ AO.dK (dN (F ++ [far]) fun p => .tup ((W' p).map nI)) :: [AO.lst (todo.map nI)]) := by
        rw [sDput_ok (n := h.length) (p := far) (v := .tup ((W near).map nI ++ [nI k])) (h1 := hL h F W todo) (h2 := hL h F W todo) (h3 := hL h F W todo) (aOp_ok (aOp_ok rfl rfl (fDget_n (g0 rfl) hh)) (aTup_ok (xs := [nI k]) rfl (by simp)) (fAdd_t (by simp; omega))) rfl rfl (g0 rfl) d (by omega), fe]
        unfold hL
        rw [p0 rfl]
      have e7 : (sExpr (aM isL mAppend (aVar 5) (aCons (aVar 11) (aNil)))) σ (h ++ AO.dK (dN (F ++ [far]) fun p => .tup ((W' p).map nI)) :: [AO.lst (todo.map nI)]) = .fin .nx σ (hL h (F ++ [far]) W' (todo ++ [far])) := sExpr_ok (aM_ok rfl (isL1 rfl) rfl (apN1 rfl (by omega)))
      refine ⟨[far], W', by { refine (sIf_t ((tAnd_t e1).trans e2)).trans ?_; refine sSeq_ok e6 ?_; exact e7 }, s.step hh hk j d, fun p hp => ?_, fun _ => by simp⟩
      rcases List.mem_append.mp hp with hp | hp
      · exact fn p hp
      · rw [List.mem_singleton] at hp; subst hp; exact hf
  · rw [decide_eq_false (by omega)] at e1
    refine ⟨[], W, ?_, by simpa using s, by simpa using fn, fun q => absurd q c⟩
    rw [List.append_nil, List.append_nil]
    exact (sIf_f (tAnd_f e1)).trans rfl
abbrev bdL2 : AS := (sSeq (sAsg (aCut (aSl (aOp fIx (aOp fIx (aVar 0) (aC (.int 1))) (aVar 7)) (aSoP (aC (.int 1))) (aNoP))) (gTup' 2 (gCons' (gN 8) (gCons' (gN 9) (gNil'))))) (sFor (aItS (aTup (aCons (aTup (aCons (aVar 8) (aCons (aVar 9) (aNil)))) (aCons (aTup (aCons (aVar 9) (aCons (aVar 8) (aNil)))) (aNil))))) (gTup' 2 (gCons' (gN 10) (gCons' (gN 11) (gNil')))) bdL))
theorem cut_ends {ns : List Str} {L : List (Str × Nat × Nat)} {k : Nat} (kl : k < L.length) {σ : ASt} {h : AH} (e0 : aVar 0 σ h = .ok (netV ns L) h) (e7 : aVar 7 σ h = .ok (nI k) h) : (aCut (aSl (aOp fIx (aOp fIx (aVar 0) (aC (.int 1))) (aVar 7)) (aSoP (aC (.int 1))) (aNoP))) σ h = .ok (.tup [.int (edg L k).1, .int (edg L k).2]) h := by
  have e : (aSl (aOp fIx (aOp fIx (aVar 0) (aC (.int 1))) (aVar 7)) (aSoP (aC (.int 1))) (aNoP)) σ h = .ok (.tup [.int (edg L k).1, .int (edg L k).2]) h := by
    rw [aSl_eq, aOp_ok (aOp_ok e0 rfl (net_1 _ _ _)) e7 (net_k kl h), Res.bind_ok]; rfl
  exact (aCut_ok e).trans (finC_same rfl)
theorem lw_line {h : AH} {ns : List Str} {L : List (Str × Nat × Nat)} (lt : LtN ns.length L) (hz : ns.length ≤ 100) {ks : List Nat} (kz : ks.length ≤ 1000) (a b here : Nat) (o8 o9 o10 o11 : Option PV) {F todo : List Nat} {W : Nat → List Nat} (s : Srch (edg L) ks a F W) (hh : here ∈ F) (fn : ∀ p ∈ F, p < ns.length) (tz : todo.length ≤ 100)
    {k : Nat} (hk : k ∈ ks) (kl : k < L.length) :
    ∃ (u : List Nat) (W' : Nat → List Nat) (p8 p9 p10 p11 : Option PV), bdL2 (sgW (netV ns L) ks a b h.length (some (.int here)) (some (nI k)) o8 o9 o10 o11) (hL h F W todo) = .fin .nx (sgW (netV ns L) ks a b h.length (some (.int here)) (some (nI k)) p8 p9 p10 p11) (hL h (F ++ u) W' (todo ++ u)) ∧
      Srch (edg L) ks a (F ++ u) W' ∧ (∀ p ∈ F ++ u, p < ns.length) ∧ ((edg L k).1 = here → (edg L k).2 ∈ F ++ u) ∧ ((edg L k).2 = here → (edg L k).1 ∈ F ++ u) := by
  obtain ⟨la, lb⟩ := edg_lt lt kl
  let N := netV ns L
  obtain ⟨⟨x, y⟩, hxy⟩ : ∃ z, edg L k = z := ⟨_, rfl⟩
  have ec := cut_ends (ns := ns) kl (σ := sgW N ks a b h.length (some (.int here)) (some (nI k)) o8 o9 o10 o11) (h := hL h F W todo) rfl rfl
  rw [hxy] at ec la lb ⊢
  dsimp only at ec la lb ⊢
  let σ : Option PV → Option PV → ASt := fun p q => sgW N ks a b h.length (some (.int here)) (some (nI k)) (some (.int x)) (some (.int y)) p q
  obtain ⟨u1, W1, eb1, s1, fn1, c1⟩ := lw_step (h := h) (todo := todo) (by omega) kz N a b here (some (.int x)) (some (.int y)) s hh fn (by omega) hk (.inl hxy) lb
  have l1 : (F ++ u1).length ≤ ns.length := len_lt s1.nd fn1
  obtain ⟨u2, W2, eb2, s2, fn2, c2⟩ := lw_step (h := h) (todo := todo ++ u1) (by omega) kz N a b here (some (.int x)) (some (.int y)) s1 (List.mem_append_left _ hh) fn1 (by rw [List.length_append] at *; omega) hk (.inr hxy) la
  have e1 : (sAsg (aCut (aSl (aOp fIx (aOp fIx (aVar 0) (aC (.int 1))) (aVar 7)) (aSoP (aC (.int 1))) (aNoP))) (gTup' 2 (gCons' (gN 8) (gCons' (gN 9) (gNil'))))) (sgW N ks a b h.length (some (.int here)) (some (nI k)) o8 o9 o10 o11) (hL h F W todo) = .fin .nx (σ o10 o11) (hL h F W todo) := sAsg_ok ec rfl
  have ei : (aItS (aTup (aCons (aTup (aCons (aVar 8) (aCons (aVar 9) (aNil)))) (aCons (aTup (aCons (aVar 9) (aCons (aVar 8) (aNil)))) (aNil))))) (σ o10 o11) (hL h F W todo) = .ok (itVals [.tup [.int x, .int y], .tup [.int y, .int x]]) (hL h F W todo) :=
    aItS_tup _ _ _ _ _ (aTup_ok (aCons_ok (aTup_ok (xs := [.int x, .int y]) rfl (by simp)) (aCons_ok (aTup_ok (xs := [.int y, .int x]) rfl (by simp)) rfl)) (by simp))
  have ef : forA (itVals [.tup [.int x, .int y], .tup [.int y, .int x]]) (gTup' 2 (gCons' (gN 10) (gCons' (gN 11) (gNil')))) bdL 2 0 (σ o10 o11) (hL h F W todo) = .fin .nx (σ (some (.int y)) (some (.int x))) (hL h (F ++ u1 ++ u2) W2 (todo ++ u1 ++ u2)) := by
    refine (for_nx (σ1 := σ (some (.int x)) (some (.int y))) (h1 := hL h F W todo) rfl rfl eb1).trans ?_
    refine (for_nx (σ1 := σ (some (.int y)) (some (.int x))) (h1 := hL h (F ++ u1) W1 (todo ++ u1)) rfl rfl eb2).trans ?_
    exact for_end rfl
  refine ⟨u1 ++ u2, W2, _, _, _, _, by { rw [← List.append_assoc, ← List.append_assoc]; refine sSeq_ok e1 ?_; exact sFor_ok ei ef }, by rw [← List.append_assoc]; exact s2, by rw [← List.append_assoc]; exact fn2, fun q => ?_, fun q => ?_⟩
  · rw [← List.append_assoc]; exact List.mem_append_left _ (c1 q)
  · rw [← List.append_assoc]; exact c2 q
end G20

namespace G20
open PySem PySem.Spec
open PyProof.Rows hiding St
open L2 AB MG
theorem lw_for {h : AH} {ns : List Str} {L : List (Str × Nat × Nat)} (lt : LtN ns.length L) (hz : ns.length ≤ 40) {ks : List Nat} (hk : ∀ k ∈ ks, k < L.length) (kz : ks.length ≤ 1000) (a b here : Nat) (o7 o8 o9 o10 o11 : Option PV) {F todo : List Nat} {W : Nat → List Nat} (s : Srch (edg L) ks a F W) (hh : here ∈ F) (fn : ∀ p ∈ F, p < ns.length) (tz : todo.length ≤ F.length) :
    ∃ (u : List Nat) (W' : Nat → List Nat) (p7 p8 p9 p10 p11 : Option PV), (sFor (aItS (aVar 1)) (gN 7) bdL2) (sgW (netV ns L) ks a b h.length (some (.int here)) o7 o8 o9 o10 o11) (hL h F W todo) = .fin .nx (sgW (netV ns L) ks a b h.length (some (.int here)) p7 p8 p9 p10 p11) (hL h (F ++ u) W' (todo ++ u)) ∧
      Srch (edg L) ks a (F ++ u) W' ∧ (∀ p ∈ F ++ u, p < ns.length) ∧ Cl (edg L) ks (F ++ u) here := by
  obtain ⟨σ', g, eF, u, W', p7, p8, p9, p10, p11, rfl, rfl, s', fn', cl⟩ := for_vals (g := gN 7) (b := bdL2) (ks.map nI)
    (fun i σ g => ∃ (u : List Nat) (W' : Nat → List Nat) (p7 p8 p9 p10 p11 : Option PV), σ = sgW (netV ns L) ks a b h.length (some (.int here)) p7 p8 p9 p10 p11 ∧ g = hL h (F ++ u) W' (todo ++ u) ∧ Srch (edg L) ks a (F ++ u) W' ∧ (∀ p ∈ F ++ u, p < ns.length) ∧
      ∀ (j k : Nat), j < i → ks[j]? = some k → ((edg L k).1 = here → (edg L k).2 ∈ F ++ u) ∧ ((edg L k).2 = here → (edg L k).1 ∈ F ++ u))
    (σ := sgW (netV ns L) ks a b h.length (some (.int here)) o7 o8 o9 o10 o11) (h := hL h F W todo) ⟨[], W, o7, o8, o9, o10, o11, rfl, by simp, by simpa using s, by simpa using fn, fun j k hj => by omega⟩
    (fun i x σ g ex ⟨u, W', p7, p8, p9, p10, p11, e1, e2, s', fn', cl⟩ => by
      subst e1; subst e2
      rw [List.getElem?_map] at ex
      obtain ⟨k, ek, rfl⟩ := Option.map_eq_some_iff.mp ex
      have km := List.mem_of_getElem? ek
      have l1 : (F ++ u).length ≤ ns.length := len_lt s'.nd fn'
      obtain ⟨v, W2, q8, q9, q10, q11, eb, s2, fn2, c1, c2⟩ := lw_line (h := h) (todo := todo ++ u) lt (by omega) kz a b here p8 p9 p10 p11 s' (List.mem_append_left _ hh) fn' (by rw [List.length_append] at *; omega) km (hk k km)
      refine ⟨_, _, _, _, rfl, eb, u ++ v, W2, _, _, _, _, _, rfl, by rw [List.append_assoc, List.append_assoc], by rw [← List.append_assoc]; exact s2, by rw [← List.append_assoc]; exact fn2, fun j q hj hq => ?_⟩
      rw [← List.append_assoc]
      by_cases d : j < i
      · exact ⟨fun z => List.mem_append_left _ ((cl j q d hq).1 z), fun z => List.mem_append_left _ ((cl j q d hq).2 z)⟩
      · have : j = i := by omega
        subst this
        rw [ek] at hq; cases hq; exact ⟨c1, c2⟩)
  refine ⟨u, W', p7, p8, p9, p10, p11, sFor_ok (a := itVals (ks.map nI)) (aItS_tup (aVar 1) _ _ _ (ks.map nI) rfl) eF, s', fn', fun k hk => ?_⟩
  obtain ⟨j, hj⟩ := List.getElem?_of_mem hk
  exact cl j k (by rw [List.length_map]; exact (List.getElem?_eq_some_iff.mp hj).1) hj
theorem law_way {ns : List Str} {L : List (Str × Nat × Nat)} (lt : LtN ns.length L) (n10 : ns.length ≤ 10) {ks : List Nat} (hk : ∀ k ∈ ks, k < L.length) (hz : ks.length ≤ 1000) {a b : Nat} (ha : a < ns.length) (j : Jn (edg L) ks a b) (h : AH) :
    ∃ p, m__law_way [netV ns L, .tup (ks.map nI), .int a, .int b] h = .ok (.tup (p.map nI)) h ∧ Way (edg L) ks a p b ∧ p.Nodup := by
  unfold m__law_way b__law_way
  let N := netV ns L
  have loop := while_rule (c := aB (aOp fGt (aFn fnLen (aCons (aVar 5) (aNil))) (aC (.int 0)))) (b := sSeq (sSet 6 (aM isL mPop (aVar 5) aNil)) (sFor (aItS (aVar 1)) (gN 7) bdL2))
    (fun σ g => ∃ (F todo : List Nat) (W : Nat → List Nat) (o6 o7 o8 o9 o10 o11 : Option PV), σ = sgW N ks a b h.length o6 o7 o8 o9 o10 o11 ∧ g = hL h F W todo ∧ Srch (edg L) ks a F W ∧ (∀ p ∈ F, p < ns.length) ∧ (∀ p ∈ todo, p ∈ F) ∧ todo.length ≤ F.length ∧ ∀ p ∈ F, p ∈ todo ∨ Cl (edg L) ks F p)
    (fun _ g => match g[h.length]?, g[h.length + 1]? with | some (.dK kvs), some (.lst l) => 2 * (11 - kvs.length) + l.length | _, _ => 0)
    (fun r => ∃ (F : List Nat) (W : Nat → List Nat) (o6 o7 o8 o9 o10 o11 : Option PV), r = .fin .nx (sgW N ks a b h.length o6 o7 o8 o9 o10 o11) (hL h F W []) ∧ Srch (edg L) ks a F W ∧ (∀ p ∈ F, Cl (edg L) ks F p))
    (fun σ g ⟨F, todo, W, o6, o7, o8, o9, o10, o11, e1, e2, s, fn, tf, tz, cl⟩ => by
      subst e1; subst e2
      have hl : F.length ≤ ns.length := len_lt s.nd fn
      have eln : fnLen [.loc (h.length + 1)] (hL h F W todo) = .ok (.int todo.length) (hL h F W todo) := by
        have := len1 (h := h) (j := []) (a := AO.dK (dN F fun p => .tup ((W p).map nI))) (xs := todo.map nI) rfl
        rw [List.length_map] at this; exact this
      have ec : (aB (aOp fGt (aFn fnLen (aCons (aVar 5) (aNil))) (aC (.int 0)))) (sgW N ks a b h.length o6 o7 o8 o9 o10 o11) (hL h F W todo) = .ok (decide ((0 : Int) < todo.length)) (hL h F W todo) := aB_ok (aOp_ok (aFn_ok rfl eln) rfl (fGt_i _ _ _))
      rcases List.eq_nil_or_concat todo with rfl | ⟨t0, here, rfl⟩
      · rw [decide_eq_false (by simp)] at ec
        exact .inl ⟨_, ec, F, W, o6, o7, o8, o9, o10, o11, rfl, s, fun p hp => (cl p hp).resolve_left (by simp)⟩
      · rw [List.concat_eq_append] at *
        rw [decide_eq_true (by simp)] at ec
        have hh : here ∈ F := tf here (by simp)
        have ep : mPop (.loc (h.length + 1)) [] (hL h F W (t0 ++ [here])) = .ok (nI here) (hL h F W t0) := by
          unfold hL
          rw [List.map_append]
          exact pop1 rfl
        have e6 : (sSet 6 (aM isL mPop (aVar 5) aNil)) (sgW N ks a b h.length o6 o7 o8 o9 o10 o11) (hL h F W (t0 ++ [here])) = .fin .nx (sgW N ks a b h.length (some (.int here)) o7 o8 o9 o10 o11) (hL h F W t0) := sSet_ok (aM_ok rfl (isL1 rfl) rfl ep)
        have tz0 : t0.length + 1 ≤ F.length := by simpa using tz
        obtain ⟨u, W', p7, p8, p9, p10, p11, eF, s', fn', cl'⟩ := lw_for (h := h) (todo := t0) lt (by omega) hk hz a b here o7 o8 o9 o10 o11 s hh fn (by omega)
        have hl' : (F ++ u).length ≤ ns.length := len_lt s'.nd fn'
        refine .inr ⟨_, ec, .inl ⟨_, _, .inl (by { refine sSeq_ok e6 ?_; exact eF }), ⟨F ++ u, t0 ++ u, W', _, _, _, _, _, _, rfl, rfl, s', fn', fun p hp => ?_, by rw [List.length_append, List.length_append]; omega, fun p hp => ?_⟩, ?_⟩⟩
        · rcases List.mem_append.mp hp with hp | hp
          · exact List.mem_append_left _ (tf p (List.mem_append_left _ hp))
          · exact List.mem_append_right _ hp
        · rcases List.mem_append.mp hp with hp | hp
          · rcases cl p hp with q | q
            · rcases List.mem_append.mp q with q | q
              · exact .inl (List.mem_append_left _ q)
              · rw [List.mem_singleton] at q; subst q; exact .inr cl'
            · exact .inr (q.mono fun x hx => List.mem_append_left _ hx)
          · exact .inl (List.mem_append_right _ hp)
        · show (match (hL h (F ++ u) W' (t0 ++ u))[h.length]?, (hL h (F ++ u) W' (t0 ++ u))[h.length + 1]? with | some (.dK kvs), some (.lst l) => 2 * (11 - kvs.length) + l.length | _, _ => 0) < (match (hL h F W (t0 ++ [here]))[h.length]?, (hL h F W (t0 ++ [here]))[h.length + 1]? with | some (.dK kvs), some (.lst l) => 2 * (11 - kvs.length) + l.length | _, _ => 0)
          unfold hL
          simp only [g0 rfl, g1 rfl]
          unfold dN
          simp only [List.length_map, List.length_append, List.length_singleton] at *
          show 2 * (11 - (F.length + u.length)) + (t0.length + u.length) < 2 * (11 - F.length) + (t0.length + 1)
          omega)
    (σ := sgW N ks a b h.length none none none none none none) (h := hL h [a] (fun _ => []) [a]) ⟨[a], [a], fun _ => [], none, none, none, none, none, none, rfl, rfl, Srch.start ks a, fun p hp => by rw [List.mem_singleton] at hp; subst hp; exact ha, fun p hp => hp, Nat.le_refl _, fun p hp => .inl hp⟩
  obtain ⟨F, W, o6, o7, o8, o9, o10, o11, eW, s, cl⟩ := loop
  have hb : b ∈ F := s.all cl j
  obtain ⟨w1, w2, _⟩ := s.way b hb
  refine ⟨W b, ?_, w1, w2⟩
  refine (mDef_rt (σ := sgW N ks a b h.length o6 o7 o8 o9 o10 o11) (h1 := h ++ (AO.dK (dN F fun p => .tup ((W p).map nI)) :: [AO.lst ([].map nI)])) (v := .tup ((W b).map nI)) ?_).trans (finC_ext (frz_below (low_nI _ _)))
  have d1 : (sSet 4 (aDict1 (aVar 2) (aTup (aNil)))) (startA 12 [netV ns L, .tup (ks.map nI), .int a, .int b]) h = .fin .nx [some N, some (.tup (ks.map nI)), some (.int a), some (.int b), some (.loc h.length), none, none, none, none, none, none, none] (h ++ [AO.dK (dN [a] fun _ => .tup [])]) := sSet_ok (aDict1_ok (fun _ => rfl) fun _ => aTup_ok (xs := []) rfl (by simp))
  have d2 : (sSet 5 (aLst (aCons (aVar 2) (aNil)))) [some N, some (.tup (ks.map nI)), some (.int a), some (.int b), some (.loc h.length), none, none, none, none, none, none, none] (h ++ [AO.dK (dN [a] fun _ => .tup [])]) = .fin .nx (sgW N ks a b h.length none none none none none none) (hL h [a] (fun _ => []) [a]) := by
    refine (sSet_ok (aLst_ok (xs := [.int a]) rfl (by simp))).trans ?_
    rw [snoc_app, List.length_append]; rfl
  refine sSeq_ok d1 ?_
  refine sSeq_ok d2 ?_
  refine sSeq_ok eW ?_
  exact sRet_ok (aOp_ok rfl rfl (fDget_n (g0 rfl) hb))
end G20

namespace G20
open PySem PySem.Spec
open PyProof.Rows hiding St
open L2 AB MG
/-- the lines with which an open line can be changed -/
noncomputable def onR (L : List (Str × Nat × Nat)) (ks : List Nat) (k : Nat) : List Nat := onW (edg L) ks (edg L k).1 (edg L k).2
noncomputable def exF (L : List (Str × Nat × Nat)) (ks : List Nat) (row : List Nat) : List (Nat × Nat) := row.flatMap fun k => if k ∈ ks then [] else (onR L ks k).map fun j => (k, j)
theorem exF_snoc (L : List (Str × Nat × Nat)) (ks row : List Nat) (k : Nat) : exF L ks (row ++ [k]) = exF L ks row ++ if k ∈ ks then [] else (onR L ks k).map fun j => (k, j) := by
  unfold exF; rw [List.flatMap_append]; simp
theorem onR_len (L : List (Str × Nat × Nat)) (ks : List Nat) (k : Nat) : (onR L ks k).length ≤ ks.length := List.length_filter_le _ _
theorem exF_len (L : List (Str × Nat × Nat)) (ks : List Nat) : ∀ row : List Nat, (exF L ks row).length ≤ row.length * ks.length
  | [] => by simp [exF]
  | k :: row => by
    have ih := exF_len L ks row
    have h1 := onR_len L ks k
    unfold exF at ih ⊢
    rw [List.flatMap_cons, List.length_append, List.length_cons, Nat.succ_mul]
    have : (if k ∈ ks then [] else (onR L ks k).map fun j => (k, j) : List (Nat × Nat)).length ≤ ks.length := by
      split
      · simp
      · rw [List.length_map]; exact h1
    omega
theorem ring {ns : List Str} {L : List (Str × Nat × Nat)} (N : Net ns L) {ks : List Nat} (T : Tree ns.length L ks) {k : Nat} (kl : k < L.length) (hn : k ∉ ks) (h : AH) :
    ∃ r : List Nat, m_ring_of [netV ns L, .tup (ks.map nI), .int k] h = .ok (.tup (r.map nI)) h ∧ (r.filter fun j => !decide (j = k)) = onR L ks k ∧ r.length ≤ 21 := by
  obtain ⟨la, lb⟩ := edg_lt N.lt kl
  have lk := T.len
  have l20 := N.l20
  obtain ⟨p, ep, w, nd⟩ := way_along N.lt N.n10 T.lt (by omega) la (T.cn _ _ la lb) h
  have lp : p.length ≤ ks.length := nd.length_le_of_subset fun k hk => w.mem k hk
  refine ⟨srtN (p ++ [k]), ?_, srt_ring T.srt T.nd T.fst w nd hn, by rw [(srtN_perm _).length_eq]; simp; omega⟩
  unfold m_ring_of b_ring_of
  let σ : ASt := [some (netV ns L), some (.tup (ks.map nI)), some (.int k), some (.int (edg L k).1), some (.int (edg L k).2)]
  have e1 : (sAsg (aCall 2 m_ends_of (aCons (aVar 0) (aCons (aVar 2) (aNil)))) (gTup' 2 (gCons' (gN 3) (gCons' (gN 4) (gNil'))))) (startA 5 [netV ns L, .tup (ks.map nI), .int k]) h = .fin .nx σ h := sAsg_ok (aCall_ok rfl rfl (ends_of kl h)) rfl
  have e2 : (aOp fAdd (aCall 4 m_way_along (aCons (aVar 0) (aCons (aVar 1) (aCons (aVar 3) (aCons (aVar 4) (aNil)))))) (aTup (aCons (aVar 2) (aNil)))) σ h = .ok (.tup ((p ++ [k]).map nI)) h := by
    rw [List.map_append]
    exact aOp_ok (aCall_ok rfl rfl ep) (aTup_ok (xs := [nI k]) rfl (by simp)) (fAdd_t (by simp; omega))
  have e3 : fnSortLT [.tup ((p ++ [k]).map nI)] h = .ok (.loc h.length) (h ++ [AO.lst ((srtN (p ++ [k])).map nI)]) := fnSortLT_n (seqOf_tup _ _) (by simp; omega)
  refine (mDef_rt (σ := σ) (h1 := h ++ [AO.lst ((srtN (p ++ [k])).map nI)]) (v := .tup ((srtN (p ++ [k])).map nI)) ?_).trans (finC_ext (frz_below (low_nI _ _)))
  refine sSeq_ok e1 ?_
  exact sRet_ok (aFn_ok (aCons_ok (aFn_ok (aCons_ok e2 rfl) e3) rfl) (fnTuple_s (seqOf_loc (getLast_app _ _))))
def fne (k : Nat) : Nat → PV → Option PV := fun _ x => match x with
  | .int j => if j = k then none else some (.tup [.int k, .int j])
  | _ => none
theorem mem_castN {i : Nat} {ks : List Nat} : ((i : Int) ∈ ks.map fun n : Nat => (n : Int)) ↔ i ∈ ks := by
  constructor
  · intro h
    obtain ⟨j, hj, e⟩ := List.mem_map.mp h
    have : j = i := by omega
    exact this ▸ hj
  · intro h; exact List.mem_map.mpr ⟨i, h, rfl⟩
noncomputable abbrev bdN : AS := (sIf (aB (aOp fNin (aVar 3) (aVar 1))) (sExpr (aM isL mExtend (aVar 2) (aCons (aLc (aItS (aCall 3 m_ring_of (aCons (aVar 0) (aCons (aVar 1) (aCons (aVar 3) (aNil)))))) [4] (gN 4) (aB (aOp fNe (aVar 4) (aVar 3))) (aTup (aCons (aVar 3) (aCons (aVar 4) (aNil))))) (aNil)))) (sNext))
theorem ex_by {ns : List Str} {L : List (Str × Nat × Nat)} (N : Net ns L) {ks : List Nat} (T : Tree ns.length L ks) (h : AH) :
    m_exchanges_by [netV ns L, .tup (ks.map nI)] h = .ok (.tup ((exF L ks (List.range L.length)).map pairV)) h := by
  unfold m_exchanges_by b_exchanges_by
  have lk := T.len
  have l20 := N.l20
  let S : Option PV → Option PV → ASt := fun o3 o4 => [some (netV ns L), some (.tup (ks.map nI)), some (.loc h.length), o3, o4]
  obtain ⟨σ', g, eF, o3, o4, G, rfl, rfl⟩ := for_vals (g := gN 3) (b := bdN) ((List.range L.length).map nI)
    (fun i σ g => ∃ (o3 o4 : Option PV) (G : AH), σ = S o3 o4 ∧ g = h ++ AO.lst ((exF L ks (List.range i)).map pairV) :: G) (σ := S none none) (h := h ++ [AO.lst []]) ⟨none, none, [], rfl, rfl⟩
    (fun i x σ g ex ⟨o3, o4, G, e1, e2⟩ => by
      subst e1; subst e2
      have il : i < L.length := by have := (List.getElem?_eq_some_iff.mp ex).1; simpa using this
      have : x = nI i := by rw [List.getElem?_map, List.getElem?_range il] at ex; cases ex; rfl
      subst this
      let X := exF L ks (List.range i)
      have lX : X.length ≤ 1000 := by
        have h1 := exF_len L ks (List.range i)
        rw [List.length_range] at h1
        have h2 : i * ks.length ≤ 20 * 20 := Nat.mul_le_mul (by omega) (by omega)
        exact Nat.le_trans h1 (Nat.le_trans h2 (by decide))
      let H := h ++ AO.lst (X.map pairV) :: G
      have ec : (aB (aOp fNin (aVar 3) (aVar 1))) (S (some (nI i)) o4) H = .ok (!decide ((i : Int) ∈ ks.map fun n : Nat => (n : Int))) H := aB_ok (aOp_ok rfl rfl (fNin_i (by rw [seqOf_tup, nI_map])))
      have di : ((i : Int) ∈ ks.map fun n : Nat => (n : Int)) ↔ i ∈ ks := mem_castN
      have res : ∀ T', exF L ks (List.range (i + 1)) = T' → (∃ G', bdN (S (some (nI i)) o4) H = .fin .nx (S (some (nI i)) o4) (h ++ AO.lst (T'.map pairV) :: G')) → ∃ σ1 h1 σ2 h2, gN 3 (nI i) (S o3 o4) H = some (σ1, h1) ∧ bdN σ1 h1 = .fin .nx σ2 h2 ∧ ∃ (o3 o4 : Option PV) (G : AH), σ2 = S o3 o4 ∧ h2 = h ++ AO.lst ((exF L ks (List.range (i + 1))).map pairV) :: G := fun T' e1 ⟨G', e2⟩ => ⟨_, _, _, _, rfl, e2, _, _, G', rfl, by rw [e1]⟩
      by_cases c : i ∈ ks
      · rw [decide_eq_true (di.mpr c)] at ec
        refine res X (by rw [List.range_succ, exF_snoc, if_pos c, List.append_nil]) ⟨G, ?_⟩
        exact (sIf_f ec).trans rfl
      · rw [decide_eq_false (fun d => c (di.mp d))] at ec
        obtain ⟨r, er, ef, lr⟩ := ring N T il c H
        have eP : ((r.map nI).zipIdx).filterMap (fun p => fne i p.2 p.1) = ((onR L ks i).map fun j => (i, j)).map pairV := by
          rw [lcV (fne i) (fun j => !decide (j = i)) (fun j => pairV (i, j)) (fun _ j => by
            show (if ((j : Nat) : Int) = (i : Nat) then none else some (PV.tup [.int i, .int j])) = _
            by_cases d : j = i
            · subst d; simp
            · have : ¬ ((j : Nat) : Int) = (i : Nat) := by omega
              simp [this, d, pairV]), ef, List.map_map]
          rfl
        have el : (aLc (aItS (aCall 3 m_ring_of (aCons (aVar 0) (aCons (aVar 1) (aCons (aVar 3) (aNil)))))) [4] (gN 4) (aB (aOp fNe (aVar 4) (aVar 3))) (aTup (aCons (aVar 3) (aCons (aVar 4) (aNil))))) (S (some (nI i)) o4) H = .ok (.loc H.length) (H ++ [AO.lst (((onR L ks i).map fun j => (i, j)).map pairV)]) := by
          rw [← eP]
          refine aLc_pure (a := itVals (r.map nI)) (h1 := H) (aItS_tup _ _ _ _ _ (aCall_ok rfl rfl er)) (r.map nI) (fne i) (Nat.le_refl _) (by simp; omega) (fun _ _ _ => rfl) fun t x acc ex => ?_
          rw [List.getElem?_map] at ex
          obtain ⟨j, _, rfl⟩ := Option.map_eq_some_iff.mp ex
          have et : (aB (aOp fNe (aVar 4) (aVar 3))) (S (some (nI i)) (some (nI j))) (H ++ [AO.lst acc]) = .ok (!decide (((j : Nat) : Int) = (i : Nat))) (H ++ [AO.lst acc]) := aB_ok (aOp_ok rfl rfl (fNe_i _ _ _))
          refine ⟨S (some (nI i)) (some (nI j)), rfl, ?_⟩
          show (_ ∧ (if ((j : Nat) : Int) = (i : Nat) then none else some (PV.tup [.int i, .int j])) = none) ∨ ∃ y, _ ∧ _ ∧ (if ((j : Nat) : Int) = (i : Nat) then none else some (PV.tup [.int i, .int j])) = some y
          by_cases d : ((j : Nat) : Int) = (i : Nat)
          · rw [decide_eq_true d] at et
            exact .inl ⟨et, if_pos d⟩
          · rw [decide_eq_false d] at et
            exact .inr ⟨_, et, aTup_ok (xs := [nI i, nI j]) rfl (by simp), if_neg d⟩
        have lo := onR_len L ks i
        have eH : H ++ [AO.lst (((onR L ks i).map fun j => (i, j)).map pairV)] = h ++ AO.lst (X.map pairV) :: (G ++ [AO.lst (((onR L ks i).map fun j => (i, j)).map pairV)]) := by simp [H]
        have ee : mExtend (.loc h.length) [.loc H.length] (H ++ [AO.lst (((onR L ks i).map fun j => (i, j)).map pairV)]) = .ok .non (h ++ AO.lst ((X ++ (onR L ks i).map fun j => (i, j)).map pairV) :: (G ++ [AO.lst (((onR L ks i).map fun j => (i, j)).map pairV)])) := by
          have q : (H ++ [AO.lst (((onR L ks i).map fun j => (i, j)).map pairV)])[H.length]? = some (AO.lst (((onR L ks i).map fun j => (i, j)).map pairV)) := getLast_app _ _
          rw [eH] at q ⊢
          rw [ext0 rfl q (by simp only [List.length_map]; omega), List.map_append]
        refine res (X ++ (onR L ks i).map fun j => (i, j)) (by rw [List.range_succ, exF_snoc, if_neg c]) ⟨G ++ [AO.lst (((onR L ks i).map fun j => (i, j)).map pairV)], ?_⟩
        refine (sIf_t ec).trans ?_
        exact sExpr_ok (v := .non) (aM_ok rfl (isL0 rfl) (aCons_ok el rfl) ee))
  have lX : (((List.range L.length).map nI).length) = L.length := by simp
  rw [lX] at eF
  refine (mDef_rt (σ := S o3 o4) (h1 := h ++ (AO.lst ((exF L ks (List.range L.length)).map pairV) :: G)) (v := .tup ((exF L ks (List.range L.length)).map pairV)) ?_).trans (finC_ext (frz_below (low_pairs _ _)))
  refine sSeq_ok (sSet_ok (aLst_ok rfl (by simp))) ?_
  refine sSeq_ok (sFor_ok (a := itVals ((List.range L.length).map nI)) (aItS_tup _ _ _ _ _ (aCall_ok rfl rfl (all_lines l20 _))) (by rw [show (itVals ((List.range L.length).map nI)).n = L.length from lX]; exact eF)) ?_
  exact sRet_ok (aFn_ok rfl (fnTuple_s (seqOf_loc (g0 rfl))))
theorem ex_of {ns : List Str} {L : List (Str × Nat × Nat)} (N : Net ns L) {ks : List Nat} (T : Tree ns.length L ks) (h : AH) :
    m_exchanges_of [netV ns L, .tup (ks.map nI)] h = .ok (.tup ((exF L ks (List.range L.length)).map pairV)) h := by
  unfold m_exchanges_of b_exchanges_of
  refine (mDef_rt (σ := [some (netV ns L), some (.tup (ks.map nI))]) (h1 := h) (v := .tup ((exF L ks (List.range L.length)).map pairV)) ?_).trans (finC_same (low_pairs _ _))
  refine sSeq_ok (sExpr_ok (aCall_ok rfl rfl (need N h))) ?_
  exact sRet_ok (aCall_ok rfl rfl (ex_by N T h))
end G20

namespace G20
open PySem PySem.Spec
open PyProof.Rows hiding St
open L2 AB MG
theorem aItS_loc {m : AE} {σ : ASt} {h h1 : AH} {n : Nat} {xs : List PV} (e : m σ h = .ok (.loc n) h1) (en : h1[n]? = some (.lst xs)) : aItS m σ h = .ok (itLive (.loc n) xs.length) h1 := by
  unfold aItS
  rw [e, Res.bind_ok]
  show itL (.loc n) h1 = _
  unfold itL
  rw [lstOf_loc en]
theorem live_nxt {h : AH} {n i : Nat} {xs : List PV} (k : Nat) (en : h[n]? = some (.lst xs)) : (itLive (.loc n) k).nxt i h = some xs[i]? := by
  show (lstOf (.loc n) h).map (fun xs => xs[i]?) = _
  rw [lstOf_loc en]; rfl
theorem fAdd_ll {xs ys : List PV} {h : AH} {m : Nat} (e2 : h[m]? = some (.lst ys)) (hz : xs.length + ys.length ≤ 1000000) : fAdd (.lst xs) (.loc m) h = .ok (.loc h.length) (h ++ [AO.lst (xs ++ ys)]) := by
  unfold fAdd AB.ownOf
  simp only [lstOf_lst, lstOf_loc e2]
  rw [if_pos (size_ok hz)]; rfl
noncomputable abbrev bdO : AS := (sIf (aB (aOp fNin (aVar 3) (aVar 1))) (sSet 2 (aCut (aOp fAdd (aVar 2) (aLc (aItS (aFn fnSortLT (aCons (aCall 4 m__law_way (aCons (aVar 0) (aCons (aVar 1) (aCons (aOp fIx (aOp fIx (aOp fIx (aVar 0) (aC (.int 1))) (aVar 3)) (aC (.int 1))) (aCons (aOp fIx (aOp fIx (aOp fIx (aVar 0) (aC (.int 1))) (aVar 3)) (aC (.int 2))) (aNil)))))) (aNil)))) [4] (gN 4) (tYes') (aTup (aCons (aVar 3) (aCons (aVar 4) (aNil)))))))) (sNext))
theorem law_ex {ns : List Str} {L : List (Str × Nat × Nat)} (N : Net ns L) {ks : List Nat} (T : Tree ns.length L ks) (h : AH) :
    m__law_exchanges [netV ns L, .tup (ks.map nI)] h = .ok (.lst ((exF L ks (List.range L.length)).map pairV)) h := by
  unfold m__law_exchanges b__law_exchanges
  have lk := T.len
  have l20 := N.l20
  let S : List (Nat × Nat) → Option PV → Option PV → ASt := fun X o3 o4 => [some (netV ns L), some (.tup (ks.map nI)), some (.lst (X.map pairV)), o3, o4]
  obtain ⟨σ', g, eF, o3, o4, rfl, eg⟩ := for_rg (g := gN 3) (b := bdO) 0 L.length
    (fun i σ g => ∃ (o3 o4 : Option PV), σ = S (exF L ks (List.range i)) o3 o4 ∧ g = h) (σ := S [] none none) (h := h) ⟨none, none, rfl, rfl⟩
    (fun i σ g il ⟨o3, o4, e1, e2⟩ => by
      subst e1; rw [e2]
      rw [Int.zero_add]
      let X := exF L ks (List.range i)
      have lX : X.length ≤ 1000 := by
        have h1 := exF_len L ks (List.range i)
        rw [List.length_range] at h1
        have h2 : i * ks.length ≤ 20 * 20 := Nat.mul_le_mul (by omega) (by omega)
        exact Nat.le_trans h1 (Nat.le_trans h2 (by decide))
      have ec : (aB (aOp fNin (aVar 3) (aVar 1))) (S X (some (nI i)) o4) h = .ok (!decide ((i : Int) ∈ ks.map fun n : Nat => (n : Int))) h := aB_ok (aOp_ok rfl rfl (fNin_i (by rw [seqOf_tup, nI_map])))
      by_cases c : i ∈ ks
      · rw [decide_eq_true (mem_castN.mpr c)] at ec
        exact ⟨_, _, S X (some (nI i)) o4, h, rfl, (sIf_f ec).trans rfl, _, _, by rw [List.range_succ, exF_snoc, if_pos c, List.append_nil], rfl⟩
      · rw [decide_eq_false (fun d => c (mem_castN.mp d))] at ec
        obtain ⟨la, lb⟩ := edg_lt N.lt il
        obtain ⟨p, ep, w, nd⟩ := law_way N.lt N.n10 T.lt (by omega) la (T.cn _ _ la lb) h
        have lp : p.length ≤ ks.length := nd.length_le_of_subset fun k hk => w.mem k hk
        have esrt : srtN p = onR L ks i := srt_way T.srt T.nd T.fst w nd
        obtain ⟨k1, k2⟩ := edg_at il h
        have ew : (aCall 4 m__law_way (aCons (aVar 0) (aCons (aVar 1) (aCons (aOp fIx (aOp fIx (aOp fIx (aVar 0) (aC (.int 1))) (aVar 3)) (aC (.int 1))) (aCons (aOp fIx (aOp fIx (aOp fIx (aVar 0) (aC (.int 1))) (aVar 3)) (aC (.int 2))) (aNil)))))) (S X (some (nI i)) o4) h = .ok (.tup (p.map nI)) h :=
          aCall_ok (aCons_ok rfl (aCons_ok rfl (aCons_ok (aOp_ok (aOp_ok (aOp_ok rfl rfl (net_1 _ _ _)) rfl (net_k il h)) rfl k1) (aCons_ok (aOp_ok (aOp_ok (aOp_ok rfl rfl (net_1 _ _ _)) rfl (net_k il h)) rfl k2) rfl)))) rfl ep
        have es : (aFn fnSortLT (aCons (aCall 4 m__law_way (aCons (aVar 0) (aCons (aVar 1) (aCons (aOp fIx (aOp fIx (aOp fIx (aVar 0) (aC (.int 1))) (aVar 3)) (aC (.int 1))) (aCons (aOp fIx (aOp fIx (aOp fIx (aVar 0) (aC (.int 1))) (aVar 3)) (aC (.int 2))) (aNil)))))) (aNil))) (S X (some (nI i)) o4) h = .ok (.loc h.length) (h ++ [AO.lst ((onR L ks i).map nI)]) := by
          rw [← esrt]
          exact aFn_ok (aCons_ok ew rfl) (fnSortLT_n (ks := p) (seqOf_tup _ _) (by omega))
        have lo := onR_len L ks i
        have el : (aLc (aItS (aFn fnSortLT (aCons (aCall 4 m__law_way (aCons (aVar 0) (aCons (aVar 1) (aCons (aOp fIx (aOp fIx (aOp fIx (aVar 0) (aC (.int 1))) (aVar 3)) (aC (.int 1))) (aCons (aOp fIx (aOp fIx (aOp fIx (aVar 0) (aC (.int 1))) (aVar 3)) (aC (.int 2))) (aNil)))))) (aNil)))) [4] (gN 4) (tYes') (aTup (aCons (aVar 3) (aCons (aVar 4) (aNil))))) (S X (some (nI i)) o4) h = .ok (.loc (h ++ [AO.lst ((onR L ks i).map nI)]).length) (h ++ [AO.lst ((onR L ks i).map nI)] ++ [AO.lst (((onR L ks i).map fun j => (i, j)).map pairV)]) := by
          have em : ((onR L ks i).map nI).map (fun x => PV.tup [nI i, x]) = ((onR L ks i).map fun j => (i, j)).map pairV := by rw [List.map_map, List.map_map]; rfl
          rw [← em]
          refine aLc_map (aItS_loc es (getLast_app _ _)) ((onR L ks i).map nI) (fun x => PV.tup [nI i, x]) (Nat.le_refl _) (by simp; omega) (fun t acc _ => live_nxt _ (by rw [List.append_assoc]; exact g0 rfl)) fun x hx acc => ⟨S X (some (nI i)) (some x), rfl, rfl, aTup_ok (xs := [nI i, x]) rfl (by simp)⟩
        have eadd := fAdd_ll (xs := X.map pairV) (h := h ++ [AO.lst ((onR L ks i).map nI)] ++ [AO.lst (((onR L ks i).map fun j => (i, j)).map pairV)]) (getLast_app _ _) (by simp; omega)
        have e2 : (aCut (aOp fAdd (aVar 2) (aLc (aItS (aFn fnSortLT (aCons (aCall 4 m__law_way (aCons (aVar 0) (aCons (aVar 1) (aCons (aOp fIx (aOp fIx (aOp fIx (aVar 0) (aC (.int 1))) (aVar 3)) (aC (.int 1))) (aCons (aOp fIx (aOp fIx (aOp fIx (aVar 0) (aC (.int 1))) (aVar 3)) (aC (.int 2))) (aNil)))))) (aNil)))) [4] (gN 4) (tYes') (aTup (aCons (aVar 3) (aCons (aVar 4) (aNil))))))) (S X (some (nI i)) o4) h = .ok (.lst ((X ++ (onR L ks i).map fun j => (i, j)).map pairV)) h := by
          refine (aCut_ok (aOp_ok rfl el eadd)).trans ?_
          rw [← List.map_append, List.append_assoc, List.append_assoc]
          refine finC_ext (frz_new (by simp) ?_ (low_pairs _ _))
          rw [← List.append_assoc, ← List.append_assoc]
          exact getLast_app _ _
        have e3 : exF L ks (List.range (i + 1)) = X ++ (onR L ks i).map fun j => (i, j) := by rw [List.range_succ, exF_snoc, if_neg c]
        refine ⟨_, _, S (X ++ (onR L ks i).map fun j => (i, j)) (some (nI i)) o4, h, rfl, (sIf_t ec).trans (sSet_ok e2), _, _, by rw [e3], rfl⟩)
  rw [eg] at eF
  refine (mDef_rt (σ := S (exF L ks (List.range L.length)) o3 o4) (h1 := h) (v := .lst ((exF L ks (List.range L.length)).map pairV)) ?_).trans (finC_same (low_pairs _ _))
  have e0 : (aCut (aLst (aNil))) (startA 5 [netV ns L, .tup (ks.map nI)]) h = .ok (.lst []) h := (aCut_ok (aLst_ok (xs := []) rfl (by simp))).trans (finC_ext (frz_new (Nat.le_refl _) (getLast_app _ _) rfl))
  refine sSeq_ok (σ1 := S [] none none) (h1 := h) (sSet_ok e0) ?_
  refine sSeq_ok (sFor_ok (aItR1_ok (j := L.length) (aCons_ok (aFn_ok (aCons_ok (aOp_ok rfl rfl (net_1 _ _ _)) rfl) (lenT (by simp) _)) rfl) (by omega) (by omega)) eF) ?_
  exact sRet_ok rfl
/-! a line changed -/
def swp (ks : List Nat) (c o : Nat) : List Nat := srtN (wo ks o ++ [c])
theorem law_after {ks : List Nat} (hz : ks.length ≤ 60) (c o : Nat) (h : AH) : m__law_after [.tup (ks.map nI), .tup [.int c, .int o]] h = .ok (.tup ((swp ks c o).map nI)) h := by
  unfold m__law_after b__law_after
  have lw : (wo ks o).length ≤ ks.length := List.length_filter_le _ _
  let S : Option PV → ASt := fun o2 => [some (.tup (ks.map nI)), some (.tup [.int c, .int o]), o2]
  have el : (aLc (aItS (aVar 0)) [2] (gN 2) (aB (aOp fNe (aVar 2) (aOp fIx (aVar 1) (aC (.int 1))))) (aVar 2)) (S none) h = .ok (.loc h.length) (h ++ [AO.lst ((wo ks o).map nI)]) := by
    have q := aLc_filter (m := aItS (aVar 0)) (a := itVals (ks.map nI)) (vs := [2]) (g := gN 2) (t := aB (aOp fNe (aVar 2) (aOp fIx (aVar 1) (aC (.int 1))))) (e := aVar 2) (σ := S none) (h := h) (h1 := h) rfl (ks.map nI) (neq o) (Nat.le_refl _) (by simp; omega) (fun _ _ _ => rfl) fun x hx acc => by
      obtain ⟨k, _, rfl⟩ := List.mem_map.mp hx
      exact ⟨S (some (nI k)), rfl, aB_ok (aOp_ok rfl (aOp_ok rfl rfl (fIx_tup rfl)) (fNe_i _ _ _)), rfl⟩
    rw [filt_nI (fun j => !decide (j = o)) (neq o) (fun k => by show (!decide ((k : Int) = (o : Nat))) = !decide (k = o); congr 1; exact decide_eq_decide.mpr (by omega))] at q
    exact q
  have ea : fAdd (.loc h.length) (.loc (h ++ [AO.lst ((wo ks o).map nI)]).length) (h ++ [AO.lst ((wo ks o).map nI)] ++ [AO.lst [nI c]]) = .ok (.loc (h ++ [AO.lst ((wo ks o).map nI)] ++ [AO.lst [nI c]]).length) (h ++ [AO.lst ((wo ks o).map nI)] ++ [AO.lst [nI c]] ++ [AO.lst ((wo ks o ++ [c]).map nI)]) := by
    rw [fAdd_l rfl rfl (xs := (wo ks o).map nI) (by rw [List.append_assoc]; exact g0 rfl) (getLast_app _ _) (by simp; omega), List.map_append]; rfl
  have e2 : (aOp fAdd (aLc (aItS (aVar 0)) [2] (gN 2) (aB (aOp fNe (aVar 2) (aOp fIx (aVar 1) (aC (.int 1))))) (aVar 2)) (aLst (aCons (aOp fIx (aVar 1) (aC (.int 0))) (aNil)))) (S none) h = _ := aOp_ok el (aLst_ok (xs := [nI c]) (aCons_ok (aOp_ok rfl rfl (fIx_tup rfl)) rfl) (by simp)) ea
  have es : ∀ G : AH, fnSortLT [.loc G.length] (G ++ [AO.lst ((wo ks o ++ [c]).map nI)]) = .ok (.loc (G ++ [AO.lst ((wo ks o ++ [c]).map nI)]).length) (G ++ [AO.lst ((wo ks o ++ [c]).map nI)] ++ [AO.lst ((swp ks c o).map nI)]) := fun G => fnSortLT_n (seqOf_loc (getLast_app _ _)) (by rw [List.length_append, List.length_singleton]; omega)
  have ev : h ++ [AO.lst ((wo ks o).map nI)] ++ [AO.lst [nI c]] ++ [AO.lst ((wo ks o ++ [c]).map nI)] ++ [AO.lst ((swp ks c o).map nI)] = h ++ [AO.lst ((wo ks o).map nI), AO.lst [nI c], AO.lst ((wo ks o ++ [c]).map nI), AO.lst ((swp ks c o).map nI)] := by simp
  refine (mDef_rt (σ := S none) (h1 := h ++ [AO.lst ((wo ks o).map nI), AO.lst [nI c], AO.lst ((wo ks o ++ [c]).map nI), AO.lst ((swp ks c o).map nI)]) (v := .tup ((swp ks c o).map nI)) ?_).trans (finC_ext (frz_below (low_nI _ _)))
  rw [← ev]
  exact sRet_ok (aFn_ok (aCons_ok (aFn_ok (aCons_ok e2 rfl) (es _)) rfl) (fnTuple_s (seqOf_loc (getLast_app _ _))))
end G20

namespace G20
open PySem PySem.Spec
open PyProof.Rows hiding St
open L2 AB MG
theorem exchanged {ks : List Nat} (hz : ks.length ≤ 60) (c o : Nat) (h : AH) : m_exchanged [.tup (ks.map nI), .tup [.int c, .int o]] h = .ok (.tup ((swp ks c o).map nI)) h := by
  unfold m_exchanged b_exchanged
  have lw : (wo ks o).length ≤ ks.length := List.length_filter_le _ _
  let S : Option PV → ASt := fun o2 => [some (.tup (ks.map nI)), some (.tup [.int c, .int o]), some (.int c), some (.int o), o2]
  have el : (aLc (aItS (aVar 0)) [4] (gN 4) (aB (aOp fNe (aVar 4) (aVar 3))) (aVar 4)) (S none) h = .ok (.loc h.length) (h ++ [AO.lst ((wo ks o).map nI)]) := by
    have q := aLc_filter (m := aItS (aVar 0)) (a := itVals (ks.map nI)) (vs := [4]) (g := gN 4) (t := aB (aOp fNe (aVar 4) (aVar 3))) (e := aVar 4) (σ := S none) (h := h) (h1 := h) rfl (ks.map nI) (neq o) (Nat.le_refl _) (by simp; omega) (fun _ _ _ => rfl) fun x hx acc => by
      obtain ⟨k, _, rfl⟩ := List.mem_map.mp hx
      exact ⟨S (some (nI k)), rfl, aB_ok (aOp_ok rfl rfl (fNe_i _ _ _)), rfl⟩
    rw [filt_nI (fun j => !decide (j = o)) (neq o) (fun k => by show (!decide ((k : Int) = (o : Nat))) = !decide (k = o); congr 1; exact decide_eq_decide.mpr (by omega))] at q
    exact q
  have ea : fAdd (.loc h.length) (.loc (h ++ [AO.lst ((wo ks o).map nI)]).length) (h ++ [AO.lst ((wo ks o).map nI)] ++ [AO.lst [nI c]]) = .ok (.loc (h ++ [AO.lst ((wo ks o).map nI)] ++ [AO.lst [nI c]]).length) (h ++ [AO.lst ((wo ks o).map nI)] ++ [AO.lst [nI c]] ++ [AO.lst ((wo ks o ++ [c]).map nI)]) := by
    rw [fAdd_l rfl rfl (xs := (wo ks o).map nI) (by rw [List.append_assoc]; exact g0 rfl) (getLast_app _ _) (by simp; omega), List.map_append]; rfl
  have e2 : (aOp fAdd (aLc (aItS (aVar 0)) [4] (gN 4) (aB (aOp fNe (aVar 4) (aVar 3))) (aVar 4)) (aLst (aCons (aVar 2) (aNil)))) (S none) h = _ := aOp_ok el (aLst_ok (xs := [nI c]) rfl (by simp)) ea
  have es : ∀ G : AH, fnSortLT [.loc G.length] (G ++ [AO.lst ((wo ks o ++ [c]).map nI)]) = .ok (.loc (G ++ [AO.lst ((wo ks o ++ [c]).map nI)]).length) (G ++ [AO.lst ((wo ks o ++ [c]).map nI)] ++ [AO.lst ((swp ks c o).map nI)]) := fun G => fnSortLT_n (seqOf_loc (getLast_app _ _)) (by rw [List.length_append, List.length_singleton]; omega)
  have ev : h ++ [AO.lst ((wo ks o).map nI)] ++ [AO.lst [nI c]] ++ [AO.lst ((wo ks o ++ [c]).map nI)] ++ [AO.lst ((swp ks c o).map nI)] = h ++ [AO.lst ((wo ks o).map nI), AO.lst [nI c], AO.lst ((wo ks o ++ [c]).map nI), AO.lst ((swp ks c o).map nI)] := by simp
  refine (mDef_rt (σ := S none) (h1 := h ++ [AO.lst ((wo ks o).map nI), AO.lst [nI c], AO.lst ((wo ks o ++ [c]).map nI), AO.lst ((swp ks c o).map nI)]) (v := .tup ((swp ks c o).map nI)) ?_).trans (finC_ext (frz_below (low_nI _ _)))
  rw [← ev]
  refine sSeq_ok (σ1 := S none) (h1 := h) (sAsg_ok (v := .tup [.int c, .int o]) rfl rfl) ?_
  exact sRet_ok (aFn_ok (aCons_ok (aFn_ok (aCons_ok e2 rfl) (es _)) rfl) (fnTuple_s (seqOf_loc (getLast_app _ _))))
theorem onR_iff {L : List (Str × Nat × Nat)} {ks : List Nat} {k j : Nat} : j ∈ onR L ks k ↔ j ∈ ks ∧ ¬ Jn (edg L) (wo ks j) (edg L k).1 (edg L k).2 := by
  unfold onR onW
  rw [List.mem_filter]; simp
theorem exF_iff {L : List (Str × Nat × Nat)} {ks row : List Nat} {c o : Nat} : (c, o) ∈ exF L ks row ↔ c ∈ row ∧ c ∉ ks ∧ o ∈ onR L ks c := by
  unfold exF
  rw [List.mem_flatMap]
  constructor
  · rintro ⟨k, hk, h⟩
    split at h
    · cases h
    · rename_i n
      obtain ⟨j, hj, e⟩ := List.mem_map.mp h
      cases e
      exact ⟨hk, n, hj⟩
  · rintro ⟨h1, h2, h3⟩
    exact ⟨c, h1, by rw [if_neg h2]; exact List.mem_map.mpr ⟨o, h3, rfl⟩⟩
/-- the state behind an exchange -/
theorem swp_tree {ns : List Str} {L : List (Str × Nat × Nat)} (N : Net ns L) {ks : List Nat} (T : Tree ns.length L ks) {c o : Nat} (h : (c, o) ∈ exF L ks (List.range L.length)) :
    Tree ns.length L (swp ks c o) ∧ (o, c) ∈ exF L (swp ks c o) (List.range L.length) ∧ swp (swp ks c o) o c = ks := by
  obtain ⟨h1, h2, h3⟩ := exF_iff.mp h
  obtain ⟨h4, h5⟩ := onR_iff.mp h3
  have cl : c < L.length := by simpa using h1
  obtain ⟨la, lb⟩ := edg_lt N.lt cl
  have p : (swp ks c o).Perm (wo ks o ++ [c]) := srtN_perm _
  have nc : c ∉ wo ks o := fun q => h2 (mem_wo.mp q).1
  have nd : (wo ks o ++ [c]).Nodup := by
    rw [List.nodup_append]
    refine ⟨T.nd.filter _, by simp, fun x hx y hy e => ?_⟩
    rw [List.mem_singleton] at hy; subst hy; subst e; exact nc hx
  have co : c ≠ o := fun e => h2 (e ▸ h4)
  have p2 : (wo (swp ks c o) c).Perm (wo ks o) := by
    have q := p.filter fun j => !decide (j = c)
    refine q.trans ?_
    rw [List.filter_append]
    have : (wo ks o).filter (fun j => !decide (j = c)) = wo ks o := List.filter_eq_self.mpr fun x hx => by
      have : x ≠ c := fun e => nc (e ▸ hx)
      simp [this]
    rw [this]; simp
  have T2 : Tree ns.length L (swp ks c o) := ⟨fun k hk => by
      rcases List.mem_append.mp (p.mem_iff.mp hk) with q | q
      · exact T.lt k (mem_wo.mp q).1
      · rw [List.mem_singleton] at q; subst q; exact cl, srtN_le _, p.nodup_iff.mpr nd, (T.fst.swap h5).perm p, fun a b ha hb => (swap_jn (T.cn _ _ la lb) h5 (T.cn a b ha hb)).perm p.symm⟩
  refine ⟨T2, exF_iff.mpr ⟨by simpa using T.lt o h4, fun q => ?_, onR_iff.mpr ⟨p.mem_iff.mpr (by simp), fun q => ?_⟩⟩, ?_⟩
  · rcases List.mem_append.mp (p.mem_iff.mp q) with q | q
    · exact (mem_wo.mp q).2 rfl
    · rw [List.mem_singleton] at q; exact co q.symm
  · exact T.fst o h4 (q.perm p2)
  · refine srtN_of ?_ T.srt
    have q : (wo ks o ++ [o]).Perm ks := by
      refine (List.perm_ext_iff_of_nodup ?_ T.nd).mpr fun x => ?_
      · rw [List.nodup_append]
        refine ⟨T.nd.filter _, by simp, fun x hx y hy e => ?_⟩
        rw [List.mem_singleton] at hy; subst hy; subst e; exact (mem_wo.mp hx).2 rfl
      · constructor
        · intro hx
          rcases List.mem_append.mp hx with hx | hx
          · exact (mem_wo.mp hx).1
          · rw [List.mem_singleton] at hx; subst hx; exact h4
        · exact wo_back
    exact q.symm.trans (p2.symm.append_right [o])
/-! the tests -/
theorem dats_pairs : ∀ X : List (Nat × Nat), dats (X.map pairV) = some (X.map fun e => PyData.tuple [.int e.1, .int e.2])
  | [] => rfl
  | e :: X => by rw [List.map_cons, dats, dats_pairs X]; rfl
theorem shp_pairs (X : List (Nat × Nat)) : SeqAt.shaped (.list (X.map fun e => PyData.tuple [.int e.1, .int e.2])) = true ∧ SeqAt.shaped (.tuple (X.map fun e => PyData.tuple [.int e.1, .int e.2])) = true := by
  have a : PyData.canLayAll0 (X.map fun e => PyData.tuple [.int e.1, .int e.2]) = true := by
    induction X with
    | nil => rfl
    | cons e X ih => rw [List.map_cons, PyData.canLayAll0, ih]; rfl
  have b : PyData.depthAll (X.map fun e => PyData.tuple [.int e.1, .int e.2]) ≤ 1 := by
    induction X with
    | nil => simp [PyData.depthAll]
    | cons e X ih =>
      rw [List.map_cons, PyData.depthAll]
      have q : PyData.depth (.tuple [.int e.1, .int e.2]) = 1 := by simp [PyData.depth, PyData.depthAll]
      rw [q]
      exact Nat.max_le.mpr ⟨Nat.le_refl _, ih (by simp only [List.map_cons, PyData.canLayAll0, Bool.and_eq_true] at a; exact a.2)⟩
  constructor <;> (unfold SeqAt.shaped; rw [PyData.canLay0, a, PyData.depth]; simp; omega)
theorem inD_pairs {a b : Int} {u : PV} {X : List (Nat × Nat)} {h : AH} (e : seqOf u h = some (X.map pairV)) : fInD (.tup [.int a, .int b]) u h = .ok (.bl (X.any fun e => decide ((e.1 : Int) = a ∧ (e.2 : Int) = b))) h := by
  unfold fInD
  have e1 : dat (.tup [.int a, .int b]) = some (.tuple [.int a, .int b]) := rfl
  rw [e, e1, Option.bind_some, dats_pairs]
  have s1 : SeqAt.shaped (.tuple [.int a, .int b]) = true := by unfold SeqAt.shaped; simp [PyData.canLay0, PyData.canLayAll0, PyData.depth, PyData.depthAll]
  dsimp only
  rw [if_pos ⟨s1, (shp_pairs X).1, (shp_pairs X).2⟩, List.any_map]
  have fe : ((fun z => PyData.eqv z (.tuple [.int a, .int b])) ∘ fun e : Nat × Nat => PyData.tuple [.int e.1, .int e.2]) = fun e => decide ((e.1 : Int) = a ∧ (e.2 : Int) = b) := funext fun e => by
    show PyData.eqv (.tuple [.int e.1, .int e.2]) (.tuple [.int a, .int b]) = _
    simp [PyData.eqv, PyData.eqvAll]; rfl
  rw [fe]
end G20

namespace AB
open PySem PySem.Spec
open PyProof.Rows hiding St
open L2
mutual
def szP : PV → Nat
  | .tup xs => 1 + szPs xs
  | .lst xs => 1 + szPs xs
  | _ => 1
termination_by structural x => x
def szPs : List PV → Nat
  | [] => 0
  | v :: r => szP v + 1 + szPs r
termination_by structural x => x
end
mutual
def smP : PV → Bool
  | .tup xs => smPs xs
  | .lst xs => smPs xs
  | .non => true
  | .bl _ => true
  | .int _ => true
  | .str _ => true
  | _ => false
termination_by structural x => x
def smPs : List PV → Bool
  | [] => true
  | v :: r => smP v && smPs r
termination_by structural x => x
end
theorem szPs_app : ∀ a b : List PV, szPs (a ++ b) = szPs a + szPs b
  | [], b => by simp [szPs]
  | v :: a, b => by rw [List.cons_append, szPs, szPs_app a b, szPs]; omega
theorem smPs_app : ∀ a b : List PV, smPs (a ++ b) = (smPs a && smPs b)
  | [], b => by simp [smPs]
  | v :: a, b => by rw [List.cons_append, smPs, smPs_app a b, smPs, Bool.and_assoc]
theorem len_sz : ∀ a : List PV, a.length ≤ szPs a
  | [] => by simp
  | v :: a => by have := len_sz a; rw [szPs, List.length_cons]; omega
def prP (v : PV) : PV := .tup [v, v]
def mI (x : PV) : Nat := match x with
  | .tup (v :: _) => szP v + 1
  | _ => 0
theorem mI_sum : ∀ vs : List PV, ((vs.map prP).map mI).sum = szPs vs
  | [] => rfl
  | v :: vs => by
    rw [List.map_cons, List.map_cons, List.sum_cons, mI_sum vs, szPs]; rfl
theorem smPs_ints : ∀ ns : List Int, smPs (ns.map PV.int) = true
  | [] => rfl
  | n :: ns => by rw [List.map_cons, smPs, smPs_ints ns]; rfl
theorem szPs_ints : ∀ ns : List Int, szPs (ns.map PV.int) = 2 * ns.length
  | [] => rfl
  | n :: ns => by rw [List.map_cons, szPs, szPs_ints ns, List.length_cons]; show 1 + 1 + _ = _; omega
theorem i_nb (g : AH) : fnIsi [.int 0, .raw (.ty "bool")] g = .ok (.bl false) g := rfl
abbrev ty (s : String) : PV := .raw (.ty s)
theorem isi_bl (b : Bool) (g : AH) : fnIsi [.bl b, ty "bool"] g = .ok (.bl true) g := rfl
theorem isi_ib (i : Int) (g : AH) : fnIsi [.int i, ty "bool"] g = .ok (.bl false) g := rfl
theorem isi_ii (i : Int) (g : AH) : fnIsi [.int i, ty "int"] g = .ok (.bl true) g := rfl
theorem isi_sb (i : Str) (g : AH) : fnIsi [.str i, ty "bool"] g = .ok (.bl false) g := rfl
theorem isi_si (i : Str) (g : AH) : fnIsi [.str i, ty "int"] g = .ok (.bl false) g := rfl
theorem isi_ss (i : Str) (g : AH) : fnIsi [.str i, ty "str"] g = .ok (.bl true) g := rfl
theorem isi_tb (i : List PV) (g : AH) : fnIsi [.tup i, ty "bool"] g = .ok (.bl false) g := rfl
theorem isi_ti (i : List PV) (g : AH) : fnIsi [.tup i, ty "int"] g = .ok (.bl false) g := rfl
theorem isi_ts (i : List PV) (g : AH) : fnIsi [.tup i, ty "str"] g = .ok (.bl false) g := rfl
theorem isi_tt (i : List PV) (g : AH) : fnIsi [.tup i, ty "tuple"] g = .ok (.bl true) g := rfl
theorem isi_tl (i : List PV) (g : AH) : fnIsi [.tup i, ty "list"] g = .ok (.bl false) g := rfl
theorem isi_lb (i : List PV) (g : AH) : fnIsi [.lst i, ty "bool"] g = .ok (.bl false) g := rfl
theorem isi_li (i : List PV) (g : AH) : fnIsi [.lst i, ty "int"] g = .ok (.bl false) g := rfl
theorem isi_ls (i : List PV) (g : AH) : fnIsi [.lst i, ty "str"] g = .ok (.bl false) g := rfl
theorem isi_lt (i : List PV) (g : AH) : fnIsi [.lst i, ty "tuple"] g = .ok (.bl false) g := rfl
theorem isi_ll (i : List PV) (g : AH) : fnIsi [.lst i, ty "list"] g = .ok (.bl true) g := rfl
/-- the loop of a law's own comparison of a value with itself -/
theorem same_loop {W1 : AS} (hflat : ∀ (a b : PV) (k : Nat) (v : PV) (g : AH) (o : Option PV), (v = .non ∨ (∃ c, v = .bl c) ∨ (∃ c, v = .int c) ∨ ∃ c, v = .str c) → ∃ p, W1 [some a, some b, some (.loc k), some v, some v, o] g = .fin .nx [some a, some b, some (.loc k), some v, some v, p] g)
    (hseq : ∀ (a b : PV) (v : PV) (xs vs : List PV) (h j : AH) (o : Option PV), (v = .tup xs ∨ v = .lst xs) → xs.length + vs.length ≤ 100000 → ∃ j' p, W1 [some a, some b, some (.loc h.length), some v, some v, o] (h ++ AO.lst (vs.map prP) :: j) = .fin .nx [some a, some b, some (.loc h.length), some v, some v, p] (h ++ AO.lst ((vs ++ xs).map prP) :: j'))
    {v : PV} (sm : smP v = true) (hz : szP v ≤ 10000) (h : AH) : mDef false 6 (sSeq (sSet 2 (aLst (aCons (aTup (aCons (aVar 0) (aCons (aVar 1) (aNil)))) (aNil)))) (sSeq (sWhile (aB (aOp fGt (aFn fnLen (aCons (aVar 2) (aNil))) (aC (.int 0)))) (sSeq (sAsg (aM isL mPop (aVar 2) aNil) (gTup' 2 (gCons' (gN 3) (gCons' (gN 4) (gNil'))))) W1)) (sRet (aC (.bl true))))) [v, v] h = .ok (.bl true) h := by
  have loop := while_rule (c := aB (aOp fGt (aFn fnLen (aCons (aVar 2) (aNil))) (aC (.int 0)))) (b := sSeq (sAsg (aM isL mPop (aVar 2) aNil) (gTup' 2 (gCons' (gN 3) (gCons' (gN 4) (gNil'))))) W1)
    (fun σ g => ∃ (o3 o4 o5 : Option PV) (vs : List PV) (j : AH), σ = [some v, some v, some (.loc h.length), o3, o4, o5] ∧ g = h ++ AO.lst (vs.map prP) :: j ∧ smPs vs = true ∧ szPs vs ≤ 20000)
    (fun σ g => match g[h.length]? with | some (.lst xs) => (xs.map mI).sum | _ => 0)
    (fun r => ∃ (o3 o4 o5 : Option PV) (j : AH), r = .fin .nx [some v, some v, some (.loc h.length), o3, o4, o5] (h ++ j))
    (fun σ g ⟨o3, o4, o5, vs, j, e1, e2, s, z⟩ => by
      subst e1; subst e2
      have ec : (aB (aOp fGt (aFn fnLen (aCons (aVar 2) (aNil))) (aC (.int 0)))) [some v, some v, some (.loc h.length), o3, o4, o5] (h ++ AO.lst (vs.map prP) :: j) = .ok (decide ((0 : Int) < ((vs.map prP).length : Nat))) (h ++ AO.lst (vs.map prP) :: j) :=
        aB_ok (aOp_ok (aFn_ok rfl (fnLen_seq (seqOf_loc (by simp)))) rfl (fGt_i _ _ _))
      rcases List.eq_nil_or_concat vs with e | ⟨ws, w, e⟩
      · subst e
        exact .inl ⟨_, ec, o3, o4, o5, _, rfl⟩
      · subst e
        rw [List.concat_eq_append] at *
        rw [decide_eq_true (by simp)] at ec
        rw [smPs_app, Bool.and_eq_true] at s
        have sw : smP w = true := by have := s.2; rw [smPs, Bool.and_eq_true] at this; exact this.1
        rw [szPs_app] at z
        have z2 : szPs [w] = szP w + 1 := by rw [szPs, szPs]
        have lz := len_sz ws
        have pop : mPop (.loc h.length) [] (h ++ AO.lst ((ws ++ [w]).map prP) :: j) = .ok (prP w) (h ++ AO.lst (ws.map prP) :: j) := by
          unfold mPop
          have e : (h ++ AO.lst ((ws ++ [w]).map prP) :: j)[h.length]? = some (.lst ((ws ++ [w]).map prP)) := by simp
          simp only [e]
          simp [put, prP]
        have s1 : ∀ r : AS, sSeq (sAsg (aM isL mPop (aVar 2) aNil) (gTup' 2 (gCons' (gN 3) (gCons' (gN 4) (gNil'))))) r [some v, some v, some (.loc h.length), o3, o4, o5] (h ++ AO.lst ((ws ++ [w]).map prP) :: j) = r [some v, some v, some (.loc h.length), some w, some w, o5] (h ++ AO.lst (ws.map prP) :: j) := fun r =>
          sSeq_ok (sAsg_ok (aM_ok rfl (isL_loc (xs := (ws ++ [w]).map prP) (by simp)) rfl pop) rfl) rfl
        have μ1 : ∀ (us : List PV) (j : AH), (match (h ++ AO.lst (us.map prP) :: j)[h.length]? with | some (.lst xs) => (xs.map mI).sum | _ => 0) = szPs us := fun us j => by
          have e : (h ++ AO.lst (us.map prP) :: j)[h.length]? = some (.lst (us.map prP)) := by simp
          rw [e]; exact mI_sum us
        have flat : (w = .non ∨ (∃ c, w = .bl c) ∨ (∃ c, w = .int c) ∨ ∃ c, w = .str c) ∨ ∃ xs, (w = .tup xs ∨ w = .lst xs) ∧ smPs xs = true ∧ szP w = 1 + szPs xs := by
          cases w with
          | non => exact .inl (.inl rfl)
          | bl c => exact .inl (.inr (.inl ⟨c, rfl⟩))
          | int c => exact .inl (.inr (.inr (.inl ⟨c, rfl⟩)))
          | str c => exact .inl (.inr (.inr (.inr ⟨c, rfl⟩)))
          | tup xs => exact .inr ⟨xs, .inl rfl, by rw [smP] at sw; exact sw, by rw [szP]⟩
          | lst xs => exact .inr ⟨xs, .inr rfl, by rw [smP] at sw; exact sw, by rw [szP]⟩
          | ro xs => cases sw
          | loc n => cases sw
          | raw x => cases sw
        rcases flat with f | ⟨xs, hx, sx, zx⟩
        · obtain ⟨p, e⟩ := hflat v v h.length w (h ++ AO.lst (ws.map prP) :: j) o5 f
          refine .inr ⟨_, ec, .inl ⟨_, _, .inl ((s1 _).trans e), ⟨some w, some w, p, ws, j, rfl, rfl, s.1, by omega⟩, ?_⟩⟩
          rw [μ1, μ1, szPs_app]; omega
        · have lx := len_sz xs
          obtain ⟨j', p, e⟩ := hseq v v w xs ws h j o5 hx (by omega)
          refine .inr ⟨_, ec, .inl ⟨_, _, .inl ((s1 _).trans e), ⟨some w, some w, p, ws ++ xs, j', rfl, rfl, by rw [smPs_app, s.1, sx]; rfl, by rw [szPs_app]; omega⟩, ?_⟩⟩
          rw [μ1, μ1, szPs_app, szPs_app]; omega)
    (σ := [some v, some v, some (.loc h.length), none, none, none]) (h := h ++ [.lst ([v].map prP)]) ⟨none, none, none, [v], [], rfl, rfl, by rw [smPs, sm]; rfl, by rw [szPs, szPs]; omega⟩
  obtain ⟨o3, o4, o5, j, eW⟩ := loop
  refine (mDef_rt (σ := [some v, some v, some (.loc h.length), o3, o4, o5]) (h1 := h ++ j) (v := .bl true) ?_).trans (finC_ext rfl)
  exact sSeq_ok (sSet_ok (aLst_ok (xs := [prP v]) (aCons_ok (aTup_ok rfl (by simp)) rfl) (by simp))) (sSeq_ok eW rfl)
end AB

namespace G20
open PySem PySem.Spec
open PyProof.Rows hiding St
open L2 AB MG
theorem tOr_f {a b : AT} {σ : ASt} {h h1 : AH} (e : a σ h = .ok false h1) : tOr a b σ h = b σ h1 := by rw [tOr_eq, e]; rfl
theorem tOr_t {a b : AT} {σ : ASt} {h h1 : AH} (e : a σ h = .ok true h1) : tOr a b σ h = .ok true h1 := by rw [tOr_eq, e]; rfl
abbrev bdV : AS := (sExpr (aM isL mAppend (aVar 2) (aCons (aTup (aCons (aOp fIx (aVar 3) (aVar 5)) (aCons (aOp fIx (aVar 4) (aVar 5)) (aNil)))) (aNil))))
abbrev bdW2 : AS := (sIf (tOr (aB (aOp fNe (aFn fnIsi (aCons (aVar 4) (aCons (aC (.raw (.ty "list"))) (aNil)))) (aFn fnIsi (aCons (aVar 3) (aCons (aC (.raw (.ty "list"))) (aNil)))))) (tOr (aB (aOp fNe (aFn fnIsi (aCons (aVar 4) (aCons (aC (.raw (.ty "tuple"))) (aNil)))) (aFn fnIsi (aCons (aVar 3) (aCons (aC (.raw (.ty "tuple"))) (aNil)))))) (aB (aOp fNe (aFn fnLen (aCons (aVar 3) (aNil))) (aFn fnLen (aCons (aVar 4) (aNil))))))) (sRet (aC (.bl false))) (sFor (aItR1 (aCons (aFn fnLen (aCons (aVar 4) (aNil))) (aNil))) (gN 5) bdV))
abbrev bdW1 : AS := (sIf (aB (aOp fIsN (aVar 4) (aC .non))) (sIf (aB (aOp fNotN (aVar 3) (aC .non))) (sRet (aC (.bl false))) (sNext)) (sIf (aTr (aFn fnIsi (aCons (aVar 4) (aCons (aC (.raw (.ty "bool"))) (aNil))))) (sIf (tOr (tNot (aTr (aFn fnIsi (aCons (aVar 3) (aCons (aC (.raw (.ty "bool"))) (aNil)))))) (aB (aOp fNe (aVar 3) (aVar 4)))) (sRet (aC (.bl false))) (sNext)) (sIf (aTr (aFn fnIsi (aCons (aVar 4) (aCons (aC (.raw (.ty "int"))) (aNil))))) (sIf (tOr (tNot (aTr (aFn fnIsi (aCons (aVar 3) (aCons (aC (.raw (.ty "int"))) (aNil)))))) (tOr (aTr (aFn fnIsi (aCons (aVar 3) (aCons (aC (.raw (.ty "bool"))) (aNil))))) (aB (aOp fNe (aVar 3) (aVar 4))))) (sRet (aC (.bl false))) (sNext)) (sIf (aTr (aFn fnIsi (aCons (aVar 4) (aCons (aC (.raw (.ty "str"))) (aNil))))) (sIf (tOr (tNot (aTr (aFn fnIsi (aCons (aVar 3) (aCons (aC (.raw (.ty "str"))) (aNil)))))) (aB (aOp fNe (aVar 3) (aVar 4)))) (sRet (aC (.bl false))) (sNext)) bdW2))))
theorem same_flat (a b : PV) (k : Nat) (v : PV) (g : AH) (o : Option PV) (hv : v = .non ∨ (∃ c, v = .bl c) ∨ (∃ c, v = .int c) ∨ ∃ c, v = .str c) :
    ∃ p, bdW1 [some a, some b, some (.loc k), some v, some v, o] g = .fin .nx [some a, some b, some (.loc k), some v, some v, p] g := by
  refine ⟨o, ?_⟩
  rcases hv with rfl | ⟨c, rfl⟩ | ⟨c, rfl⟩ | ⟨c, rfl⟩
  · rfl
  · exact (sIf_f (h1 := g) rfl).trans ((sIf_t (h1 := g) rfl).trans ((sIf_f (h1 := g) ((tOr_f (h1 := g) rfl).trans (aB_ok (b := false) (aOp_ok rfl rfl (by rw [fNe_b]; simp))))).trans rfl))
  · exact (sIf_f (h1 := g) rfl).trans ((sIf_f (h1 := g) rfl).trans ((sIf_t (h1 := g) rfl).trans ((sIf_f (h1 := g) ((tOr_f (h1 := g) rfl).trans ((tOr_f (h1 := g) rfl).trans (aB_ok (b := false) (aOp_ok rfl rfl (by rw [fNe_i]; simp)))))).trans rfl)))
  · exact (sIf_f (h1 := g) rfl).trans ((sIf_f (h1 := g) rfl).trans ((sIf_f (h1 := g) rfl).trans ((sIf_t (h1 := g) rfl).trans ((sIf_f (h1 := g) ((tOr_f (h1 := g) rfl).trans (aB_ok (b := false) (aOp_ok rfl rfl (by rw [fNe_s]; simp))))).trans rfl))))
theorem same_seq (a b : PV) (v : PV) (xs vs : List PV) (h j : AH) (o : Option PV) (hv : v = .tup xs ∨ v = .lst xs) (hz : xs.length + vs.length ≤ 100000) :
    ∃ j' p, bdW1 [some a, some b, some (.loc h.length), some v, some v, o] (h ++ AO.lst (vs.map prP) :: j) = .fin .nx [some a, some b, some (.loc h.length), some v, some v, p] (h ++ AO.lst ((vs ++ xs).map prP) :: j') := by
  let σ : Option PV → ASt := fun o => [some a, some b, some (.loc h.length), some v, some v, o]
  let g : AH := h ++ AO.lst (vs.map prP) :: j
  have sq : ∀ g, seqOf v g = some xs := fun g => by rcases hv with rfl | rfl <;> rfl
  have l0 : ∀ g, fnLen [v] g = .ok (.int xs.length) g := fun g => fnLen_seq (sq g)
  have ix : ∀ (i : Nat) x g, xs[i]? = some x → fIx v (.int i) g = .ok x g := fun i x g e => by
    rcases hv with rfl | rfl
    · exact fIx_tup (atI_nat e)
    · exact fIx_lst (atI_nat e)
  obtain ⟨σ', g', eF, p, rfl, rfl⟩ := for_rg (g := gN 5) (b := bdV) 0 xs.length
    (fun i s g => ∃ p, s = σ p ∧ g = h ++ AO.lst ((vs ++ xs.take i).map prP) :: j) (σ := σ o) (h := g) ⟨o, rfl, by simp [g]⟩
    (fun i s g hi ⟨p, e1, e2⟩ => by
      subst e1; subst e2
      rw [Int.zero_add]
      have ex : xs[i]? = some xs[i] := List.getElem?_eq_getElem hi
      have et : vs ++ xs.take (i + 1) = (vs ++ xs.take i) ++ [xs[i]] := by rw [List.take_succ, ex, List.append_assoc]; rfl
      have ll : (xs.take i).length ≤ xs.length := by rw [List.length_take]; omega
      have ap : mAppend (.loc h.length) [prP xs[i]] (h ++ AO.lst ((vs ++ xs.take i).map prP) :: j) = .ok .non (h ++ AO.lst ((vs ++ xs.take (i + 1)).map prP) :: j) := by
        rw [ap0 rfl (by rw [List.length_map, List.length_append]; omega), et, List.map_append (l₁ := vs ++ xs.take i)]; rfl
      refine ⟨_, _, σ (some (nI i)), _, rfl, ?_, _, rfl, rfl⟩
      exact sExpr_ok (v := .non) (aM_ok rfl (isL0 rfl) (aCons_ok (aTup_ok (xs := [xs[i], xs[i]]) (aCons_ok (aOp_ok rfl rfl (ix i _ _ ex)) (aCons_ok (aOp_ok rfl rfl (ix i _ _ ex)) rfl)) (by simp)) rfl) ap))
  rw [List.take_length] at eF
  refine ⟨j, p, ?_⟩
  have w2 : bdW2 (σ o) g = .fin .nx (σ p) (h ++ AO.lst ((vs ++ xs).map prP) :: j) := by
    have e1 : (aB (aOp fNe (aFn fnLen (aCons (aVar 3) (aNil))) (aFn fnLen (aCons (aVar 4) (aNil))))) (σ o) g = .ok false g := aB_ok (aOp_ok (aFn_ok rfl (l0 _)) (aFn_ok rfl (l0 _)) (by rw [fNe_i]; simp))
    refine (sIf_f (h1 := g) ?_).trans (sFor_ok (aItR1_ok (j := xs.length) (aCons_ok (aFn_ok rfl (l0 _)) rfl) (by omega) (by omega)) eF)
    rcases hv with rfl | rfl
    · exact (tOr_f (h1 := g) rfl).trans ((tOr_f (h1 := g) rfl).trans e1)
    · exact (tOr_f (h1 := g) rfl).trans ((tOr_f (h1 := g) rfl).trans e1)
  rcases hv with rfl | rfl
  · exact (sIf_f (h1 := g) rfl).trans ((sIf_f (h1 := g) rfl).trans ((sIf_f (h1 := g) rfl).trans ((sIf_f (h1 := g) rfl).trans w2)))
  · exact (sIf_f (h1 := g) rfl).trans ((sIf_f (h1 := g) rfl).trans ((sIf_f (h1 := g) rfl).trans ((sIf_f (h1 := g) rfl).trans w2)))
theorem same {v : PV} (sm : smP v = true) (hz : szP v ≤ 10000) (h : AH) : m__law_same [v, v] h = .ok (.bl true) h := by
  unfold m__law_same b__law_same
  exact same_loop (W1 := bdW1) same_flat same_seq sm hz h
end G20

namespace G20
open PySem PySem.Spec
open PyProof.Rows hiding St
open L2 AB MG
def okP : PV → Bool
  | .int _ => true
  | .bl _ => true
  | .str _ => true
  | .tup _ => true
  | _ => false
def isI : PV → Bool
  | .int _ => true
  | _ => false
theorem is_int {v : PV} (hv : okP v = true) (h : AH) : m_is_integer [v] h = .ok (.bl (isI v)) h := by
  unfold m_is_integer b_is_integer
  refine (mDef_rt (σ := [some v]) (h1 := h) (v := .bl (isI v)) (sRet_ok ?_)).trans (finC_same rfl)
  cases v <;> first | rfl | cases hv
theorem boolsOf_map (f : PV → Bool) : ∀ xs : List PV, boolsOf (xs.map fun x => .bl (f x)) = some (xs.map f)
  | [] => rfl
  | x :: xs => by rw [List.map_cons, boolsOf, boolsOf_map f xs]; rfl
theorem are_ints {xs : List PV} (hx : ∀ x ∈ xs, okP x = true) (hz : xs.length ≤ 100) (h : AH) : m_are_integers [.tup xs] h = .ok (.bl (xs.all isI)) h := by
  unfold m_are_integers b_are_integers
  have el : (aLc (aItS (aVar 0)) [1] (gN 1) (tYes') (aCall 1 m_is_integer (aCons (aVar 1) (aNil)))) [some (.tup xs), none] h = .ok (.loc h.length) (h ++ [AO.lst (xs.map fun x => .bl (isI x))]) :=
    aLc_map (a := itVals xs) (h1 := h) rfl xs (fun x => .bl (isI x)) (Nat.le_refl _) (by omega) (fun _ _ _ => rfl) fun x hx' acc => ⟨[some (.tup xs), some x], rfl, rfl, aCall_ok rfl rfl (is_int (hx x hx') _)⟩
  have ea : fnAll [.loc h.length] (h ++ [AO.lst (xs.map fun x => .bl (isI x))]) = .ok (.bl (xs.all isI)) (h ++ [AO.lst (xs.map fun x => .bl (isI x))]) := by
    unfold fnAll
    simp only [lstOf_loc (getLast_app _ _), Option.bind_some, boolsOf_map]
    rw [List.all_map]; rfl
  exact (mDef_rt (σ := [some (.tup xs), none]) (h1 := h ++ [AO.lst (xs.map fun x => .bl (isI x))]) (v := .bl (xs.all isI)) (sRet_ok (aFn_ok (aCons_ok el rfl) ea))).trans (finC_ext rfl)
theorem aAnd_f {a b : AE} {σ : ASt} {h h1 : AH} (e : a σ h = .ok (.bl false) h1) : aAnd a b σ h = .ok (.bl false) h1 := by rw [aAnd_eq, e]; rfl
theorem aAnd_t {a b : AE} {σ : ASt} {h h1 : AH} (e : a σ h = .ok (.bl true) h1) : aAnd a b σ h = b σ h1 := by rw [aAnd_eq, e]; rfl
def isx (X : List (Nat × Nat)) : PV → Bool
  | .tup [.int a, .int b] => X.any fun e => decide ((e.1 : Int) = a ∧ (e.2 : Int) = b)
  | _ => false
def Good (thing : PV) (h : AH) : Prop := (∃ xs, thing = .tup xs ∧ (∀ x ∈ xs, okP x = true) ∧ xs.length ≤ 100) ∨ (fnIsi [thing, .raw (.ty "tuple")] h = .ok (.bl false) h ∧ ∀ X, isx X thing = false)
theorem tup_of {xs : List PV} (h : AH) : m_tuple_of [.tup xs, .int 2] h = .ok (.bl (decide ((xs.length : Int) = 2))) h := by
  unfold m_tuple_of b_tuple_of
  refine (mDef_rt (σ := [some (.tup xs), some (.int 2)]) (h1 := h) (v := .bl (decide ((xs.length : Int) = 2))) (sRet_ok ?_)).trans (finC_same rfl)
  exact (aAnd_t (h1 := h) rfl).trans (aOp_ok (aFn_ok rfl (fnLen_seq (seqOf_tup _ _))) rfl (fEq_i _ _ _))
theorem tup_not {v : PV} {h : AH} (e : fnIsi [v, .raw (.ty "tuple")] h = .ok (.bl false) h) : m_tuple_of [v, .int 2] h = .ok (.bl false) h := by
  unfold m_tuple_of b_tuple_of
  refine (mDef_rt (σ := [some v, some (.int 2)]) (h1 := h) (v := .bl false) (sRet_ok ?_)).trans (finC_same rfl)
  exact aAnd_f (aFn_ok rfl e)
theorem two_of {xs : List PV} (h : (xs.length : Int) = 2) : ∃ x y, xs = [x, y] := by
  match xs, h with
  | [x, y], _ => exact ⟨x, y, rfl⟩
  | [], h => simp at h
  | [_], h => simp at h
  | _ :: _ :: _ :: _, h => simp at h; omega
theorem isx_len {X : List (Nat × Nat)} {xs : List PV} (h : ¬ (xs.length : Int) = 2) : isx X (.tup xs) = false := by
  match xs, h with
  | [x, y], h => exact absurd rfl h
  | [], h => rfl
  | [x], h => cases x <;> rfl
  | x :: y :: _ :: _, h => cases x <;> cases y <;> rfl
theorem isx_not {X : List (Nat × Nat)} {x y : PV} (h : ([x, y].all isI) = false) : isx X (.tup [x, y]) = false := by
  cases x <;> cases y <;> first | rfl | simp [isI] at h
theorem ints_of2 {x y : PV} (h : ([x, y].all isI) = true) : ∃ a b, x = .int a ∧ y = .int b := by
  cases x <;> cases y <;> first | exact ⟨_, _, rfl, rfl⟩ | simp [isI] at h
theorem is_ex {ns : List Str} {L : List (Str × Nat × Nat)} (N : Net ns L) {ks : List Nat} (T : Tree ns.length L ks) {thing : PV} {h : AH} (g : Good thing h) :
    m_is_exchange [netV ns L, .tup (ks.map nI), thing] h = .ok (.bl (isx (exF L ks (List.range L.length)) thing)) h := by
  unfold m_is_exchange b_is_exchange
  let σ : ASt := [some (netV ns L), some (.tup (ks.map nI)), some thing]
  refine (mDef_rt (σ := σ) (h1 := h) (v := .bl (isx (exF L ks (List.range L.length)) thing)) ?_).trans (finC_same rfl)
  refine sSeq_ok (σ1 := σ) (h1 := h) (sExpr_ok (aCall_ok rfl rfl (need N h))) (sRet_ok ?_)
  rcases g with ⟨xs, rfl, ok, hz⟩ | ⟨e, q⟩
  · have e1 : (aCall 2 m_tuple_of (aCons (aVar 2) (aCons (aC (.int 2)) (aNil)))) σ h = .ok (.bl (decide ((xs.length : Int) = 2))) h := aCall_ok rfl rfl (tup_of h)
    by_cases c : (xs.length : Int) = 2
    · rw [decide_eq_true c] at e1
      obtain ⟨x, y, rfl⟩ := two_of c
      have e2 : (aCall 1 m_are_integers (aCons (aVar 2) (aNil))) σ h = .ok (.bl ([x, y].all isI)) h := aCall_ok rfl rfl (are_ints ok hz h)
      refine (aAnd_t e1).trans ?_
      cases d : [x, y].all isI
      · rw [d] at e2
        rw [isx_not d]
        exact aAnd_f e2
      · rw [d] at e2
        obtain ⟨a, b, rfl, rfl⟩ := ints_of2 d
        exact (aAnd_t e2).trans (aOp_ok rfl (aCall_ok rfl rfl (ex_by N T h)) (inD_pairs (seqOf_tup _ _)))
    · rw [decide_eq_false c] at e1
      rw [isx_len c]
      exact aAnd_f e1
  · rw [q]
    exact aAnd_f (aCall_ok rfl rfl (tup_not e))
/-- the law's own word -/
abbrev eRight : AE := (aCut (aAnd (aFn fnIsi (aCons (aVar 11) (aCons (aC (.raw (.ty "tuple"))) (aNil)))) (aAnd (aOp fEq (aFn fnLen (aCons (aVar 11) (aNil))) (aC (.int 2))) (aAnd (aOp fEq (aFn fnLen (aCons (aLc (aItS (aVar 11)) [13] (gN 13) (tOr (aTr (aFn fnIsi (aCons (aVar 13) (aCons (aC (.raw (.ty "bool"))) (aNil))))) (tNot (aTr (aFn fnIsi (aCons (aVar 13) (aCons (aC (.raw (.ty "int"))) (aNil))))))) (aVar 13)) (aNil))) (aC (.int 0))) (aOp fInD (aVar 11) (aVar 3))))))
def sgQ (N : PV) (ks : List Nat) (X : List (Nat × Nat)) (o4 o5 o6 o7 o8 o9 o10 o11 o12 o13 : Option PV) : ASt := [some (.loc 2), some N, some (.tup (ks.map nI)), some (.lst (X.map pairV)), o4, o5, o6, o7, o8, o9, o10, o11, o12, o13]
theorem right {N : PV} {ks : List Nat} {X : List (Nat × Nat)} {o4 o5 o6 o7 o8 o9 o10 o12 o13 : Option PV} {thing : PV} {h : AH} (g : Good thing h) :
    eRight (sgQ N ks X o4 o5 o6 o7 o8 o9 o10 (some thing) o12 o13) h = .ok (.bl (isx X thing)) h := by
  let σ := sgQ N ks X o4 o5 o6 o7 o8 o9 o10 (some thing) o12 o13
  rcases g with ⟨xs, rfl, ok, hz⟩ | ⟨e, q⟩
  · have e1 : (aOp fEq (aFn fnLen (aCons (aVar 11) (aNil))) (aC (.int 2))) σ h = .ok (.bl (decide ((xs.length : Int) = 2))) h := aOp_ok (aFn_ok rfl (fnLen_seq (seqOf_tup _ _))) rfl (fEq_i _ _ _)
    by_cases c : (xs.length : Int) = 2
    · rw [decide_eq_true c] at e1
      have el : (aLc (aItS (aVar 11)) [13] (gN 13) (tOr (aTr (aFn fnIsi (aCons (aVar 13) (aCons (aC (.raw (.ty "bool"))) (aNil))))) (tNot (aTr (aFn fnIsi (aCons (aVar 13) (aCons (aC (.raw (.ty "int"))) (aNil))))))) (aVar 13)) σ h = .ok (.loc h.length) (h ++ [AO.lst (xs.filter fun x => !isI x)]) := by
        refine aLc_filter (a := itVals xs) (h1 := h) rfl xs (fun x => !isI x) (Nat.le_refl _) (by omega) (fun _ _ _ => rfl) fun x hx acc => ?_
        have okx := ok x hx
        refine ⟨sgQ N ks X o4 o5 o6 o7 o8 o9 o10 (some (.tup xs)) o12 (some x), rfl, ?_, rfl⟩
        cases x <;> first | rfl | cases okx
      have e2 : (aOp fEq (aFn fnLen (aCons (aLc (aItS (aVar 11)) [13] (gN 13) (tOr (aTr (aFn fnIsi (aCons (aVar 13) (aCons (aC (.raw (.ty "bool"))) (aNil))))) (tNot (aTr (aFn fnIsi (aCons (aVar 13) (aCons (aC (.raw (.ty "int"))) (aNil))))))) (aVar 13)) (aNil))) (aC (.int 0))) σ h = .ok (.bl (decide (((xs.filter fun x => !isI x).length : Int) = 0))) (h ++ [AO.lst (xs.filter fun x => !isI x)]) :=
        aOp_ok (aFn_ok (aCons_ok el rfl) (fnLen_seq (seqOf_loc (getLast_app _ _)))) rfl (fEq_i _ _ _)
      obtain ⟨x, y, rfl⟩ := two_of c
      have dd : (decide ((([x, y].filter fun x => !isI x).length : Int) = 0)) = [x, y].all isI := by
        cases hx : isI x <;> cases hy : isI y <;> simp [hx, hy]
      rw [dd] at e2
      have fin : ∀ b, ((aAnd (aFn fnIsi (aCons (aVar 11) (aCons (aC (.raw (.ty "tuple"))) (aNil)))) (aAnd (aOp fEq (aFn fnLen (aCons (aVar 11) (aNil))) (aC (.int 2))) (aAnd (aOp fEq (aFn fnLen (aCons (aLc (aItS (aVar 11)) [13] (gN 13) (tOr (aTr (aFn fnIsi (aCons (aVar 13) (aCons (aC (.raw (.ty "bool"))) (aNil))))) (tNot (aTr (aFn fnIsi (aCons (aVar 13) (aCons (aC (.raw (.ty "int"))) (aNil))))))) (aVar 13)) (aNil))) (aC (.int 0))) (aOp fInD (aVar 11) (aVar 3)))))) σ h = .ok (.bl b) (h ++ [AO.lst ([x, y].filter fun x => !isI x)]) → eRight σ h = .ok (.bl b) h := fun b hb => (aCut_ok hb).trans (finC_ext rfl)
      refine fin _ ?_
      refine (aAnd_t (h1 := h) rfl).trans ((aAnd_t e1).trans ?_)
      cases d : [x, y].all isI
      · rw [d] at e2
        rw [isx_not d]
        exact aAnd_f e2
      · rw [d] at e2
        obtain ⟨a, b, rfl, rfl⟩ := ints_of2 d
        exact (aAnd_t e2).trans (aOp_ok rfl rfl (inD_pairs (seqOf_lst _ _)))
    · rw [decide_eq_false c] at e1
      rw [isx_len c]
      exact (aCut_ok ((aAnd_t (h1 := h) rfl).trans (aAnd_f e1))).trans (finC_same rfl)
  · rw [q]
    exact (aCut_ok (aAnd_f (aFn_ok rfl e))).trans (finC_same rfl)
end G20

namespace G20
open PySem PySem.Spec
open PyProof.Rows hiding St
open L2 AB MG
theorem aCallK_ok {n nk np : Nat} {perm : List Nat} {m : FN} {l lk : AL} {σ : ASt} {h h1 h2 h3 : AH} {xs ys zs : List PV} {v : PV} (el : l σ h = .ok xs h1) (ek : lk σ h1 = .ok ys h2) (hp : kwG np nk perm xs ys = zs) (hn : zs.length = n) (em : m zs h2 = .ok v h3) : aCallK n nk np perm m l lk σ h = .ok v h3 := by
  unfold aCallK
  rw [el, Res.bind_ok, ek, Res.bind_ok, hp, if_pos hn, em]; rfl
theorem sm_pairs : ∀ X : List (Nat × Nat), smPs (X.map pairV) = true ∧ szPs (X.map pairV) = 6 * X.length
  | [] => ⟨rfl, rfl⟩
  | e :: X => by
    obtain ⟨a, b⟩ := sm_pairs X
    refine ⟨by rw [List.map_cons, smPs, a]; rfl, ?_⟩
    rw [List.map_cons, szPs, b, List.length_cons]
    show (1 + (1 + 1 + (1 + 1 + 0))) + 1 + _ = _
    omega
theorem sm_nI (ks : List Nat) : smP (.tup (ks.map nI)) = true ∧ szP (.tup (ks.map nI)) = 1 + 2 * ks.length := by
  rw [nI_map]
  exact ⟨by rw [smP, smPs_ints], by rw [szP, szPs_ints]; simp⟩
theorem Good.tup {xs : List PV} {h : AH} (a : xs.all okP = true) (b : xs.length ≤ 100) : Good (.tup xs) h := .inl ⟨xs, rfl, fun x hx => List.all_eq_true.mp a x hx, b⟩
theorem sz_bl (b : Bool) : szP (.bl b) ≤ 10000 := by cases b <;> decide
theorem isx_mem {X : List (Nat × Nat)} {a b : Nat} : isx X (.tup [.int a, .int b]) = true ↔ (a, b) ∈ X := by
  show (X.any fun e => decide ((e.1 : Int) = (a : Nat) ∧ (e.2 : Int) = (b : Nat))) = true ↔ _
  rw [List.any_eq_true]
  constructor
  · rintro ⟨⟨c, d⟩, hx, e⟩
    have := of_decide_eq_true e
    have h1 : c = a := by have := this.1; dsimp only at this; omega
    have h2 : d = b := by have := this.2; dsimp only at this; omega
    subst h1; subst h2; exact hx
  · intro hx
    exact ⟨(a, b), hx, decide_eq_true ⟨rfl, rfl⟩⟩
theorem cutP_map {α β : Type} (f : α → β) (xs : List α) (lo hi : Option Int) : cutP (xs.map f) lo hi = (cutP xs lo hi).map f := by
  unfold cutP
  rw [List.length_map, List.map_take, List.map_drop]
theorem cutP_mem {α : Type} {xs : List α} {lo hi : Option Int} {x : α} (h : x ∈ cutP xs lo hi) : x ∈ xs := List.mem_of_mem_drop (List.mem_of_mem_take h)
end G20

namespace G20
open PySem PySem.Spec
open PyProof.Rows hiding St
open L2 AB MG
noncomputable abbrev exL (L : List (Str × Nat × Nat)) (ks : List Nat) : List (Nat × Nat) := exF L ks (List.range L.length)
/-- the lines of A that B has not -/
def dif (A B : List Nat) : List Nat := A.filter fun k => !decide (k ∈ B)
theorem mem_dif {A B : List Nat} {k : Nat} : k ∈ dif A B ↔ k ∈ A ∧ k ∉ B := by
  unfold dif; rw [List.mem_filter]; simp
theorem part_len (P : Nat → Bool) : ∀ A : List Nat, (A.filter P).length + (A.filter fun k => !P k).length = A.length
  | [] => rfl
  | a :: A => by
    have := part_len P A
    by_cases c : P a = true
    · rw [List.filter_cons_of_pos c, List.filter_cons_of_neg (by simp [c]), List.length_cons, List.length_cons]; omega
    · rw [List.filter_cons_of_neg c, List.filter_cons_of_pos (by simp at c; simp [c]), List.length_cons, List.length_cons]; omega
theorem nodup_sub {A B : List Nat} (na : A.Nodup) (nb : B.Nodup) (sub : ∀ k ∈ A, k ∈ B) (l : B.length ≤ A.length) : ∀ k ∈ B, k ∈ A := fun k hk => by
  by_cases c : k ∈ A
  · exact c
  · have : (k :: A).length ≤ B.length := (List.nodup_cons.mpr ⟨c, na⟩).length_le_of_subset fun y hy => by
      rcases List.mem_cons.mp hy with rfl | hy
      · exact hk
      · exact sub y hy
    simp at this; omega
theorem Jn_of' {e : Nat → Nat × Nat} {T : List Nat} {E : List (Nat × Nat)} (h : ∀ x ∈ E, Jn e T x.1 x.2) {a b : Nat} (c : Cn E a b) : Jn e T a b := by
  induction c with
  | rf => exact .rf _
  | fw _ m ih => exact ih.tr (h _ m)
  | bw _ m ih => exact ih.tr (h _ m).sm
section
variable {ns : List Str} {L : List (Str × Nat × Nat)} (N : Net ns L)
include N
theorem tree_len {ks : List Nat} (T : Tree ns.length L ks) : ks.length + 1 = ns.length :=
  (fst_len N.pos (fun k hk => edg_lt N.lt (T.lt k hk)) T.fst T.nd).2.mpr fun p hp => T.cn 0 p N.pos hp
theorem sub_eq {A B : List Nat} (TA : Tree ns.length L A) (TB : Tree ns.length L B) (sub : ∀ k ∈ A, k ∈ B) : A = B := by
  have la := tree_len N TA
  have lb := tree_len N TB
  have p : A.Perm B := (List.perm_ext_iff_of_nodup TA.nd TB.nd).mpr fun x => ⟨sub x, nodup_sub TA.nd TB.nd sub (by omega) x⟩
  rw [← srtN_of p TA.srt, srtN_of (List.Perm.refl B) TB.srt]
theorem has_more {A B : List Nat} (TA : Tree ns.length L A) (TB : Tree ns.length L B) (ne : A ≠ B) : ∃ l, l ∈ B ∧ l ∉ A := by
  refine Classical.byContradiction fun c => ne ?_
  exact (sub_eq N TB TA fun k hk => Classical.byContradiction fun d => c ⟨k, hk, d⟩).symm
theorem dif_sym {A B : List Nat} (TA : Tree ns.length L A) (TB : Tree ns.length L B) : (dif A B).length = (dif B A).length := by
  have la := tree_len N TA
  have lb := tree_len N TB
  have h1 := part_len (fun k => decide (k ∈ B)) A
  have h2 := part_len (fun k => decide (k ∈ A)) B
  have p : (A.filter fun k => decide (k ∈ B)).Perm (B.filter fun k => decide (k ∈ A)) := (List.perm_ext_iff_of_nodup (TA.nd.filter _) (TB.nd.filter _)).mpr fun x => by
    simp only [List.mem_filter, decide_eq_true_eq]; exact and_comm
  have := p.length_eq
  unfold dif
  omega
theorem way_of {A : List Nat} (TA : Tree ns.length L A) {a b : Nat} (ha : a < ns.length) (hb : b < ns.length) : ∃ p, Way (edg L) A a p b ∧ p.Nodup := by
  have := TA.len
  have := N.l20
  obtain ⟨p, _, w, nd⟩ := law_way N.lt N.n10 TA.lt (by omega) ha (TA.cn a b ha hb) []
  exact ⟨p, w, nd⟩
/-- a line of B more goes in for a line that B has not -/
theorem ring_out {A B : List Nat} (TA : Tree ns.length L A) (TB : Tree ns.length L B) {l : Nat} (hl : l ∈ B) (hn : l ∉ A) : ∃ o, o ∈ onR L A l ∧ o ∉ B := by
  obtain ⟨ha, hb⟩ := edg_lt N.lt (TB.lt l hl)
  obtain ⟨p, w, nd⟩ := way_of N TA ha hb
  refine Classical.byContradiction fun c => TB.fst l hl ?_
  have pp : p.Perm (onR L A l) := w.perm TA.nd TA.fst nd
  refine (w.mono (js := wo B l) fun k hk => mem_wo.mpr ⟨?_, ?_⟩).jn
  · exact Classical.byContradiction fun d => c ⟨k, pp.mem_iff.mp hk, d⟩
  · intro e; subst e; exact hn (w.mem k hk)
theorem ex_mem {A : List Nat} {c o : Nat} : (c, o) ∈ exL L A ↔ c < L.length ∧ c ∉ A ∧ o ∈ onR L A c := by
  rw [exF_iff, List.mem_range]
/-- an exchange towards B -/
theorem dif_swp {A B : List Nat} (TA : Tree ns.length L A) {c o : Nat} (hc : c ∈ B) (ho : o ∈ A) (hb : o ∉ B) : (dif (swp A c o) B).length + 1 = (dif A B).length := by
  unfold swp dif
  have p := (srtN_perm (wo A o ++ [c])).filter fun k => !decide (k ∈ B)
  rw [p.length_eq, List.filter_append, List.filter_cons_of_neg (by simp [hc]), List.filter_nil, List.append_nil]
  have e : (wo A o).filter (fun k => !decide (k ∈ B)) = (A.filter fun k => !decide (k ∈ B)).filter fun v => !decide (v = o) := by
    unfold wo
    rw [List.filter_filter, List.filter_filter]
    refine List.filter_congr fun k _ => ?_
    exact Bool.and_comm _ _
  rw [e]
  exact filter_ne_len (TA.nd.filter _) (List.mem_filter.mpr ⟨ho, by simp [hb]⟩)
/-- a line of A that B has not: a line of B that goes in for it in A, and out for it in B -/
theorem even {A B : List Nat} (TA : Tree ns.length L A) (TB : Tree ns.length L B) {l : Nat} (hl : l ∈ A) (hn : l ∉ B) : ∃ m, m ∈ B ∧ m ∉ A ∧ l ∈ onR L A m ∧ m ∈ onR L B l := by
  obtain ⟨ha, hb⟩ := edg_lt N.lt (TA.lt l hl)
  obtain ⟨p, w, nd⟩ := way_of N TB ha hb
  have pp : p.Perm (onR L B l) := w.perm TB.nd TB.fst nd
  have nj := TA.fst l hl
  obtain ⟨m, hm, nm⟩ : ∃ m, m ∈ p ∧ ¬ Jn (edg L) (wo A l) (edg L m).1 (edg L m).2 := by
    refine Classical.byContradiction fun c => nj ?_
    have j : Jn (edg L) p (edg L l).1 (edg L l).2 := (w.mono fun k hk => hk).jn
    have all : ∀ x ∈ p.map (edg L), Jn (edg L) (wo A l) x.1 x.2 := fun x hx => by
      obtain ⟨k, hk, rfl⟩ := List.mem_map.mp hx
      exact Classical.byContradiction fun d => c ⟨k, hk, d⟩
    exact Jn_of' all j
  have hmB := w.mem m hm
  have hmA : m ∉ A := fun h => nm (Jn.line (mem_wo.mpr ⟨h, fun e => by subst e; exact hn hmB⟩))
  exact ⟨m, hmB, hmA, onR_iff.mpr ⟨hl, nm⟩, pp.mem_iff.mp hm⟩
end
end G20

namespace G20
open PySem PySem.Spec
open PyProof.Rows hiding St
open L2 AB MG
/-! tuples of numbers compared -/
theorem dats_nI : ∀ ks : List Nat, dats (ks.map nI) = some (ks.map fun k : Nat => PyData.int k)
  | [] => rfl
  | k :: ks => by rw [List.map_cons, dats, dats_nI ks]; rfl
theorem shp_nI (ks : List Nat) : SeqAt.shaped (.tuple (ks.map fun k : Nat => PyData.int k)) = true := by
  have a : PyData.canLayAll0 (ks.map fun k : Nat => PyData.int k) = true := by
    induction ks with
    | nil => rfl
    | cons e X ih => rw [List.map_cons, PyData.canLayAll0, ih]; rfl
  have b : PyData.depthAll (ks.map fun k : Nat => PyData.int k) ≤ 1 := by
    induction ks with
    | nil => simp [PyData.depthAll]
    | cons e X ih =>
      rw [List.map_cons, PyData.depthAll]
      have q : PyData.depth (.int (e : Nat)) = 0 := by simp [PyData.depth]
      rw [q]
      exact Nat.max_le.mpr ⟨Nat.zero_le _, ih (by simp only [List.map_cons, PyData.canLayAll0, Bool.and_eq_true] at a; exact a.2)⟩
  unfold SeqAt.shaped; rw [PyData.canLay0, a, PyData.depth]; simp; omega
theorem eqv_nI (A B : List Nat) : PyData.eqv (.tuple (A.map fun k : Nat => PyData.int k)) (.tuple (B.map fun k : Nat => PyData.int k)) = decide (A = B) := by
  show PyData.eqvAll _ _ = _
  induction A generalizing B with
  | nil => cases B <;> rfl
  | cons a A ih =>
    cases B with
    | nil => rfl
    | cons b B =>
      rw [List.map_cons, List.map_cons, PyData.eqvAll, ih B]
      rw [Bool.eq_iff_iff, Bool.and_eq_true, decide_eq_true_iff, decide_eq_true_iff, List.cons.injEq]
      have : PyData.eqv (.int (a : Nat)) (.int (b : Nat)) = true ↔ a = b := by
        simp [PyData.eqv]; omega
      rw [this]
theorem fEqD_nI (A B : List Nat) (h : AH) : fEqD (.tup (A.map nI)) (.tup (B.map nI)) h = .ok (.bl (decide (A = B))) h := by
  unfold fEqD
  have e : ∀ ks : List Nat, dat (.tup (ks.map nI)) = some (.tuple (ks.map fun k : Nat => PyData.int k)) := fun ks => by rw [dat, dats_nI]; rfl
  rw [e, e]
  dsimp only
  rw [if_pos ⟨shp_nI A, shp_nI B⟩, eqv_nI]
theorem fNeD_nI (A B : List Nat) (h : AH) : fNeD (.tup (A.map nI)) (.tup (B.map nI)) h = .ok (.bl (!decide (A = B))) h := by
  unfold fNeD
  have e : ∀ ks : List Nat, dat (.tup (ks.map nI)) = some (.tuple (ks.map fun k : Nat => PyData.int k)) := fun ks => by rw [dat, dats_nI]; rfl
  rw [e, e]
  dsimp only
  rw [if_pos ⟨shp_nI A, shp_nI B⟩, eqv_nI]
/-! the fewest steps, the nearer exchange, the row -/
theorem fewest {A B : List Nat} (hz : A.length ≤ 1000) (h : AH) : m_fewest_steps [.tup (A.map nI), .tup (B.map nI)] h = .ok (.int (dif A B).length) h := by
  unfold m_fewest_steps b_fewest_steps
  let σ : Option PV → ASt := fun o => [some (.tup (A.map nI)), some (.tup (B.map nI)), o]
  have e := aLc_filter (m := aItS (aVar 0)) (a := itVals (A.map nI)) (vs := [2]) (g := gN 2) (t := aB (aOp fNin (aVar 2) (aVar 1))) (e := aVar 2) (σ := σ none) (h := h) (h1 := h) (aItS_tup _ _ _ _ _ rfl) (A.map nI) (fun x => match x with | .int i => !decide (i.toNat ∈ B) | _ => false) (Nat.le_refl _) (by simp; omega) (fun _ _ _ => rfl) (fun x hx acc => by
    obtain ⟨k, _, rfl⟩ := List.mem_map.mp hx
    exact ⟨σ (some (nI k)), rfl, aB_ok (aOp_ok rfl rfl (fNin_nn (seqOf_tup _ _))), rfl⟩)
  rw [filt_nI (fun k => !decide (k ∈ B)) _ (fun k => rfl)] at e
  refine (mDef_rt (σ := σ none) (h1 := h ++ [AO.lst ((dif A B).map nI)]) (v := .int (dif A B).length) ?_).trans (finC_ext rfl)
  exact sRet_ok (aFn_ok (aCons_ok e rfl) ((fnLen_seq (seqOf_loc (getLast_app _ _))).trans (by rw [List.length_map]; rfl)))
section
variable {ns : List Str} {L : List (Str × Nat × Nat)} (N : Net ns L)
include N
theorem exL_len {ks : List Nat} (T : Tree ns.length L ks) : (exL L ks).length ≤ 400 := by
  have h1 := exF_len L ks (List.range L.length)
  rw [List.length_range] at h1
  have h2 : L.length * ks.length ≤ 20 * 20 := Nat.mul_le_mul N.l20 (Nat.le_trans T.len N.l20)
  exact Nat.le_trans h1 h2
theorem nearer {A B : List Nat} (TA : Tree ns.length L A) (TB : Tree ns.length L B) (ne : A ≠ B) (h : AH) :
    ∃ e, m_nearer_exchange [netV ns L, .tup (A.map nI), .tup (B.map nI)] h = .ok (pairV e) h ∧ e ∈ exL L A ∧ e.1 ∈ B ∧ e.2 ∉ B := by
  unfold m_nearer_exchange b_nearer_exchange
  have le := exL_len N TA
  let P : Nat × Nat → Bool := fun e => decide (e.1 ∈ B) && !decide (e.2 ∈ B)
  let σ : Option PV → ASt := fun o => [some (netV ns L), some (.tup (A.map nI)), some (.tup (B.map nI)), o]
  have q := aLc_filter (m := aItS (aCall 2 m_exchanges_by (aCons (aVar 0) (aCons (aVar 1) (aNil))))) (a := itVals ((exL L A).map pairV)) (vs := [3]) (g := gN 3) (t := (tAnd (aB (aOp fIn (aOp fIx (aVar 3) (aC (.int 0))) (aVar 2))) (aB (aOp fNin (aOp fIx (aVar 3) (aC (.int 1))) (aVar 2))))) (e := aVar 3) (σ := σ none) (h := h) (h1 := h) (aItS_tup _ _ _ _ _ (aCall_ok rfl rfl (ex_by N TA h))) ((exL L A).map pairV) (fun x => match x with | .tup [.int a, .int b] => P (a.toNat, b.toNat) | _ => false) (Nat.le_refl _) (by rw [List.length_map]; omega) (fun _ _ _ => rfl) (fun x hx acc => by
    obtain ⟨e, _, rfl⟩ := List.mem_map.mp hx
    refine ⟨σ (some (pairV e)), rfl, ?_, rfl⟩
    have t1 : (aB (aOp fIn (aOp fIx (aVar 3) (aC (.int 0))) (aVar 2))) (σ (some (pairV e))) (h ++ [AO.lst acc]) = .ok (decide (e.1 ∈ B)) (h ++ [AO.lst acc]) := aB_ok (aOp_ok (aOp_ok rfl rfl (fIx_tup (x := .int e.1) rfl)) rfl (fIn_nn (seqOf_tup _ _)))
    have t2 : (aB (aOp fNin (aOp fIx (aVar 3) (aC (.int 1))) (aVar 2))) (σ (some (pairV e))) (h ++ [AO.lst acc]) = .ok (!decide (e.2 ∈ B)) (h ++ [AO.lst acc]) := aB_ok (aOp_ok (aOp_ok rfl rfl (fIx_tup (x := .int e.2) rfl)) rfl (fNin_nn (seqOf_tup _ _)))
    show _ = Res.ok (decide (e.1 ∈ B) && !decide (e.2 ∈ B)) _
    cases c : decide (e.1 ∈ B) with
    | true => rw [c] at t1; exact (tAnd_t t1).trans t2
    | false => rw [c] at t1; exact tAnd_f t1)
  have ef : ((exL L A).map pairV).filter (fun x => match x with | .tup [.int a, .int b] => P (a.toNat, b.toNat) | _ => false) = ((exL L A).filter P).map pairV := by
    rw [List.filter_map]
    exact congrArg (List.map pairV) (List.filter_congr fun e _ => rfl)
  rw [ef] at q
  obtain ⟨l, hl, hn⟩ := has_more N TA TB ne
  obtain ⟨o, ho, hb⟩ := ring_out N TA TB hl hn
  have hin : (l, o) ∈ (exL L A).filter P := List.mem_filter.mpr ⟨(ex_mem N).mpr ⟨TB.lt l hl, hn, ho⟩, by simp [P, hl, hb]⟩
  cases c : (exL L A).filter P with
  | nil => rw [c] at hin; cases hin
  | cons e r =>
    have he : e ∈ (exL L A).filter P := by rw [c]; simp
    obtain ⟨h1, h2⟩ := List.mem_filter.mp he
    have h3 : e.1 ∈ B ∧ e.2 ∉ B := by simpa [P] using h2
    refine ⟨e, ?_, h1, h3.1, h3.2⟩
    rw [c] at q
    refine (mDef_rt (σ := σ none) (h1 := h ++ [AO.lst ((e :: r).map pairV)]) (v := pairV e) ?_).trans (finC_ext rfl)
    refine sRet_ok (aOp_ok q rfl ?_)
    show fIx (.loc h.length) (.int ((0 : Nat) : Int)) _ = _
    exact fIx_loc (getLast_app _ _) (atI_nat rfl)
/-- a row of exchanges from tree to tree -/
inductive Ld (L : List (Str × Nat × Nat)) : List Nat → List (Nat × Nat) → List Nat → Prop where
  | nil (A : List Nat) : Ld L A [] A
  | cons {A B : List Nat} {e : Nat × Nat} {R : List (Nat × Nat)} (h : e ∈ exL L A) (r : Ld L (swp A e.1 e.2) R B) : Ld L A (e :: R) B
omit N in
theorem Ld.snoc {A B : List Nat} {R : List (Nat × Nat)} (d : Ld L A R B) {e : Nat × Nat} (h : e ∈ exL L B) : Ld L A (R ++ [e]) (swp B e.1 e.2) := by
  induction d with
  | nil A => exact .cons h (.nil _)
  | cons h1 r ih => exact .cons h1 (ih h)
theorem step_row {A B : List Nat} (TA : Tree ns.length L A) (TB : Tree ns.length L B) (h : AH) :
    ∃ R, m_step_row [netV ns L, .tup (A.map nI), .tup (B.map nI)] h = .ok (.tup (R.map pairV)) h ∧ Ld L A R B ∧ R.length = (dif A B).length := by
  unfold m_step_row b_step_row
  have la := TA.len
  have l20 := N.l20
  let S : PV → ASt := fun v => [some (netV ns L), some (.tup (A.map nI)), some (.tup (B.map nI)), some (.loc h.length), some v]
  have lA : (dif A B).length ≤ A.length := List.length_filter_le _ _
  have loop := while_rule (c := aB (aOp fNeD (aVar 4) (aVar 2))) (b := (sSeq (sExpr (aM isL mAppend (aVar 3) (aCons (aCall 3 m_nearer_exchange (aCons (aVar 0) (aCons (aVar 4) (aCons (aVar 2) (aNil))))) (aNil)))) (sSet 4 (aCall 2 m_exchanged (aCons (aVar 4) (aCons (aOp fIx (aVar 3) (aUn fNeg (aC (.int 1)))) (aNil)))))))
    (fun σ g => ∃ (R : List (Nat × Nat)) (C : List Nat), σ = S (.tup (C.map nI)) ∧ g = h ++ [AO.lst (R.map pairV)] ∧ Tree ns.length L C ∧ Ld L A R C ∧ R.length + (dif C B).length = (dif A B).length)
    (fun _ g => match g[h.length]? with | some (.lst xs) => 1000 - xs.length | _ => 0)
    (fun r => ∃ R : List (Nat × Nat), r = .fin .nx (S (.tup (B.map nI))) (h ++ [AO.lst (R.map pairV)]) ∧ Ld L A R B ∧ R.length = (dif A B).length)
    (fun σ g ⟨R, C, e1, e2, TC, ld, ln⟩ => by
      subst e1; subst e2
      have ec : (aB (aOp fNeD (aVar 4) (aVar 2))) (S (.tup (C.map nI))) (h ++ [AO.lst (R.map pairV)]) = .ok (!decide (C = B)) (h ++ [AO.lst (R.map pairV)]) := aB_ok (aOp_ok rfl rfl (fNeD_nI C B _))
      by_cases c : C = B
      · subst c
        rw [decide_eq_true rfl] at ec
        have : dif C C = [] := List.filter_eq_nil_iff.mpr fun k hk => by simp [hk]
        rw [this] at ln
        exact .inl ⟨_, ec, R, rfl, ld, by simpa using ln⟩
      · rw [decide_eq_false c] at ec
        obtain ⟨e, en, h1, h2, h3⟩ := nearer N TC TB c (h ++ [AO.lst (R.map pairV)])
        have h4 := (ex_mem N).mp (show (e.1, e.2) ∈ exL L C from h1)
        have ho := (onR_iff.mp h4.2.2).1
        have hs := dif_swp N TC (c := e.1) (o := e.2) h2 ho h3
        have lC := TC.len
        have ap : mAppend (.loc h.length) [pairV e] (h ++ [AO.lst (R.map pairV)]) = .ok .non (h ++ [AO.lst ((R ++ [e]).map pairV)]) := by
          rw [ap0 rfl (by simp; omega)]; simp
        have s1 : (sExpr (aM isL mAppend (aVar 3) (aCons (aCall 3 m_nearer_exchange (aCons (aVar 0) (aCons (aVar 4) (aCons (aVar 2) (aNil))))) (aNil)))) (S (.tup (C.map nI))) (h ++ [AO.lst (R.map pairV)]) = .fin .nx (S (.tup (C.map nI))) (h ++ [AO.lst ((R ++ [e]).map pairV)]) :=
          sExpr_ok (aM_ok rfl (isL0 rfl) (aCons_ok (aCall_ok rfl rfl en) rfl) ap)
        have ix : fIx (.loc h.length) (.int (-1)) (h ++ [AO.lst ((R ++ [e]).map pairV)]) = .ok (pairV e) (h ++ [AO.lst ((R ++ [e]).map pairV)]) := by
          refine fIx_loc (getLast_app _ _) ?_
          unfold atI ixN
          rw [if_neg (by omega), if_pos (by simp; omega), Option.bind_some]
          rw [List.map_append, List.length_append, List.getElem?_append_right (by simp; omega)]
          have : (-1 + ((R.map pairV).length + ([e].map pairV).length : Nat) : Int).toNat - (R.map pairV).length = 0 := by simp; omega
          rw [this]; rfl
        have s2 : (sSet 4 (aCall 2 m_exchanged (aCons (aVar 4) (aCons (aOp fIx (aVar 3) (aUn fNeg (aC (.int 1)))) (aNil))))) (S (.tup (C.map nI))) (h ++ [AO.lst ((R ++ [e]).map pairV)]) = .fin .nx (S (.tup ((swp C e.1 e.2).map nI))) (h ++ [AO.lst ((R ++ [e]).map pairV)]) :=
          sSet_ok (aCall_ok (aCons_ok rfl (aCons_ok (aOp_ok rfl (y := .int (-1)) rfl ix) rfl)) rfl (exchanged (by omega) e.1 e.2 _))
        refine .inr ⟨_, ec, .inl ⟨_, _, .inl (by { refine sSeq_ok s1 ?_; exact s2 }), ⟨R ++ [e], swp C e.1 e.2, rfl, rfl, (swp_tree N TC h1).1, ld.snoc h1, by simp; omega⟩, ?_⟩⟩
        show (match (h ++ [AO.lst ((R ++ [e]).map pairV)])[h.length]? with | some (.lst xs) => 1000 - xs.length | _ => 0) < (match (h ++ [AO.lst (R.map pairV)])[h.length]? with | some (.lst xs) => 1000 - xs.length | _ => 0)
        rw [getLast_app, getLast_app]
        simp; omega)
    (σ := S (.tup (A.map nI))) (h := h ++ [AO.lst ([].map pairV)]) ⟨[], A, rfl, rfl, TA, .nil A, by simp⟩
  obtain ⟨R, eW, ld, ln⟩ := loop
  refine ⟨R, (mDef_rt (σ := S (.tup (B.map nI))) (h1 := h ++ [AO.lst (R.map pairV)]) (v := .tup (R.map pairV)) ?_).trans (finC_ext (frz_below (low_pairs _ _))), ld, ln⟩
  refine sSeq_ok (σ1 := startA 5 [netV ns L, .tup (A.map nI), .tup (B.map nI)]) (h1 := h) (sExpr_ok (aCall_ok rfl rfl (need N h))) ?_
  refine sSeq_ok (σ1 := [some (netV ns L), some (.tup (A.map nI)), some (.tup (B.map nI)), some (.loc h.length), none]) (h1 := h ++ [AO.lst []]) (sSet_ok (aLst_ok (xs := []) rfl (by simp))) ?_
  refine sSeq_ok (σ1 := S (.tup (A.map nI))) (h1 := h ++ [AO.lst ([].map pairV)]) (sSet_ok rfl) ?_
  refine sSeq_ok eW ?_
  exact sRet_ok (aFn_ok rfl (fnTuple_s (seqOf_loc (getLast_app _ _))))
end
end G20

namespace G20
open PySem PySem.Spec
open PyProof.Rows hiding St
open L2 AB MG
def isP : PV → Bool
  | .tup [.int _, .int _] => true
  | _ => false
def dcE : PV → Nat × Nat
  | .tup [.int a, .int b] => (a.toNat, b.toNat)
  | _ => (0, 0)
noncomputable def ldP (L : List (Str × Nat × Nat)) (B : List Nat) : List Nat → List PV → Bool
  | A, [] => decide (A = B)
  | A, x :: r => isx (exL L A) x && ldP L B (swp A (dcE x).1 (dcE x).2) r
theorem isx_true {X : List (Nat × Nat)} {x : PV} (h : isx X x = true) : ∃ e ∈ X, x = pairV e := by
  unfold isx at h
  split at h
  · rename_i a b
    obtain ⟨e, he, q⟩ := List.any_eq_true.mp h
    have := of_decide_eq_true q
    exact ⟨e, he, by rw [← this.1, ← this.2]; rfl⟩
  · cases h
theorem isx_in {X : List (Nat × Nat)} {e : Nat × Nat} (h : e ∈ X) : isx X (pairV e) = true := isx_mem.mpr h
theorem isP_of {x : PV} (h : isP x = true) : ∃ a b, x = .tup [.int a, .int b] := by
  unfold isP at h
  split at h
  · exact ⟨_, _, rfl⟩
  · cases h
theorem ldP_all {L : List (Str × Nat × Nat)} {B : List Nat} : ∀ {xs : List PV} {A : List Nat}, ldP L B A xs = true → ∀ x ∈ xs, isP x = true
  | [], _, _, x, hx => by cases hx
  | y :: r, A, h, x, hx => by
    unfold ldP at h
    rw [Bool.and_eq_true] at h
    rcases List.mem_cons.mp hx with rfl | hx
    · obtain ⟨e, _, rfl⟩ := isx_true h.1; rfl
    · exact ldP_all h.2 x hx
theorem Ld_ldP {L : List (Str × Nat × Nat)} {A B : List Nat} {R : List (Nat × Nat)} (d : Ld L A R B) : ldP L B A (R.map pairV) = true := by
  induction d with
  | nil A => exact decide_eq_true rfl
  | cons h r ih =>
    rw [List.map_cons, ldP, isx_in h, Bool.true_and]
    exact ih
section
variable {ns : List Str} {L : List (Str × Nat × Nat)} (N : Net ns L)
include N
theorem lead_loop {b : AS} (S : List Nat → Option PV → ASt) (h : AH) (B : List Nat) (xs : List PV) (hg : ∀ A x o, gN 5 x (S A o) h = some (S A (some x), h))
    (hb : ∀ x ∈ xs, ∀ A, Tree ns.length L A → (isx (exL L A) x = false → b (S A (some x)) h = .fin (.rt (.bl false)) (S A (some x)) h) ∧ (∀ e, e ∈ exL L A → x = pairV e → b (S A (some x)) h = .fin .nx (S (swp A e.1 e.2) (some x)) h)) :
    ∀ (k i : Nat) (A : List Nat) (o : Option PV), k = xs.length - i → i ≤ xs.length → Tree ns.length L A → ∃ C o', Tree ns.length L C ∧ ((forA (itVals xs) (gN 5) b k i (S A o) h = .fin .nx (S C o') h ∧ ldP L B A (xs.drop i) = decide (C = B)) ∨ (forA (itVals xs) (gN 5) b k i (S A o) h = .fin (.rt (.bl false)) (S C o') h ∧ ldP L B A (xs.drop i) = false)) := by
  intro k
  induction k with
  | zero =>
    intro i A o hk hi TA
    have ei : i = xs.length := by omega
    subst ei
    refine ⟨A, o, TA, .inl ⟨?_, by rw [List.drop_length]; rfl⟩⟩
    unfold forA
    show (match some xs[xs.length]? with | none => _ | some none => _ | some (some x) => _) = _
    rw [List.getElem?_eq_none (Nat.le_refl _)]
  | succ k ih =>
    intro i A o hk hi TA
    have hlt : i < xs.length := by omega
    have ex : xs[i]? = some xs[i] := by simp [hlt]
    have ed : xs.drop i = xs[i] :: xs.drop (i + 1) := List.drop_eq_getElem_cons hlt
    obtain ⟨b1, b2⟩ := hb xs[i] (List.getElem_mem hlt) A TA
    cases c : isx (exL L A) xs[i] with
    | false =>
      refine ⟨A, some xs[i], TA, .inr ⟨?_, by rw [ed, ldP, c]; rfl⟩⟩
      unfold forA
      show (match some xs[i]? with | none => _ | some none => _ | some (some x) => _) = _
      rw [ex]
      simp only [hg, b1 c]
    | true =>
      obtain ⟨e, he, hx⟩ := isx_true c
      have T' := (swp_tree N TA (c := e.1) (o := e.2) he).1
      obtain ⟨C, o', TC, q⟩ := ih (i + 1) (swp A e.1 e.2) (some xs[i]) (by omega) (by omega) T'
      have dx : dcE xs[i] = e := by rw [hx]; rfl
      have el : ldP L B A (xs.drop i) = ldP L B (swp A e.1 e.2) (xs.drop (i + 1)) := by rw [ed, ldP, c, dx, Bool.true_and]
      have ef : forA (itVals xs) (gN 5) b (k + 1) i (S A o) h = forA (itVals xs) (gN 5) b k (i + 1) (S (swp A e.1 e.2) (some xs[i])) h := by
        conv => lhs; unfold forA
        show (match some xs[i]? with | none => _ | some none => _ | some (some x) => _) = _
        rw [ex]
        simp only [hg, b2 e he hx]
      rw [el, ef]
      exact ⟨C, o', TC, q⟩
theorem is_step {A B : List Nat} (TA : Tree ns.length L A) {xs : List PV} (hz : xs.length ≤ 100) (hg : ∀ x ∈ xs, ∀ h, Good x h) (h : AH) :
    m_is_step_row [netV ns L, .tup (A.map nI), .tup (B.map nI), .tup xs] h = .ok (.bl (decide (xs.length = (dif A B).length) && ldP L B A xs)) h := by
  unfold m_is_step_row b_is_step_row
  have la := TA.len
  have l20 := N.l20
  let S : List Nat → Option PV → ASt := fun C o => [some (netV ns L), some (.tup (A.map nI)), some (.tup (B.map nI)), some (.tup xs), some (.tup (C.map nI)), o]
  let σ0 := startA 6 [netV ns L, .tup (A.map nI), .tup (B.map nI), .tup xs]
  have d1 : (sExpr (aCall 1 m_need_together (aCons (aVar 0) (aNil)))) σ0 h = .fin .nx σ0 h := sExpr_ok (aCall_ok rfl rfl (need N h))
  have ec : (tOr (tNot (aTr (aFn fnIsi (aCons (aVar 3) (aCons (aC (.raw (.ty "tuple"))) (aNil)))))) (aB (aOp fNe (aFn fnLen (aCons (aVar 3) (aNil))) (aCall 2 m_fewest_steps (aCons (aVar 1) (aCons (aVar 2) (aNil))))))) σ0 h = .ok (!decide (xs.length = (dif A B).length)) h := by
    refine (tOr_f (h1 := h) (tNot_ok (b := true) (aTr_ok (aFn_ok rfl (isi_tt _ _))))).trans ?_
    refine aB_ok (aOp_ok (aFn_ok rfl (lenT rfl _)) (aCall_ok rfl rfl (fewest (by omega) h)) ?_)
    rw [fNe_i]
    have : decide ((xs.length : Int) = ((dif A B).length : Nat)) = decide (xs.length = (dif A B).length) := decide_eq_decide.mpr (by omega)
    rw [this]
  by_cases c : xs.length = (dif A B).length
  · rw [decide_eq_true c] at ec ⊢
    obtain ⟨C, o', TC, q⟩ := lead_loop N (b := (sSeq (sIf (tNot (aTr (aCall 3 m_is_exchange (aCons (aVar 0) (aCons (aVar 4) (aCons (aVar 5) (aNil))))))) (sRet (aC (.bl false))) (sNext)) (sSet 4 (aCall 2 m_exchanged (aCons (aVar 4) (aCons (aVar 5) (aNil))))))) S h B xs (fun A x o => rfl) (fun x hx D TD => by
      have lD := TD.len
      have e1 : (aTr (aCall 3 m_is_exchange (aCons (aVar 0) (aCons (aVar 4) (aCons (aVar 5) (aNil)))))) (S D (some x)) h = .ok (isx (exL L D) x) h := aTr_ok (aCall_ok rfl rfl (is_ex N TD (hg x hx h)))
      constructor
      · intro c
        rw [c] at e1
        exact sSeq_rt ((sIf_t (tNot_ok e1)).trans rfl)
      · intro e he hx'
        have : isx (exL L D) x = true := by rw [hx']; exact isx_in he
        rw [this] at e1
        refine sSeq_ok ((sIf_f (tNot_ok e1)).trans rfl) (sSet_ok (aCall_ok rfl rfl ?_))
        rw [hx']
        exact exchanged (by omega) e.1 e.2 h) xs.length 0 A none (by omega) (Nat.zero_le _) TA
    rw [List.drop_zero] at q
    rcases q with ⟨q1, q2⟩ | ⟨q1, q2⟩
    · rw [q2, Bool.true_and]
      refine (mDef_rt (σ := S C o') (h1 := h) (v := .bl (decide (C = B))) ?_).trans (finC_same rfl)
      refine sSeq_ok d1 ?_
      refine sSeq_ok (σ1 := σ0) (h1 := h) ((sIf_f ec).trans rfl) ?_
      refine sSeq_ok (σ1 := S A none) (h1 := h) (sSet_ok rfl) ?_
      refine sSeq_ok (sFor_ok (aItS_tup _ _ _ _ _ rfl) q1) ?_
      exact sRet_ok (aOp_ok rfl rfl (fEqD_nI C B h))
    · rw [q2, Bool.true_and]
      refine (mDef_rt (σ := S C o') (h1 := h) (v := .bl false) ?_).trans (finC_same rfl)
      refine sSeq_ok d1 ?_
      refine sSeq_ok (σ1 := σ0) (h1 := h) ((sIf_f ec).trans rfl) ?_
      refine sSeq_ok (σ1 := S A none) (h1 := h) (sSet_ok rfl) ?_
      exact sSeq_rt (sFor_ok (aItS_tup _ _ _ _ _ rfl) q1)
  · rw [decide_eq_false c] at ec ⊢
    refine (mDef_rt (σ := σ0) (h1 := h) (v := .bl false) ?_).trans (finC_same rfl)
    refine sSeq_ok d1 ?_
    exact sSeq_rt ((sIf_t ec).trans rfl)
theorem is_step_no {A B : List Nat} {v : PV} (hv : ∀ h, fnIsi [v, .raw (.ty "tuple")] h = .ok (.bl false) h) (h : AH) :
    m_is_step_row [netV ns L, .tup (A.map nI), .tup (B.map nI), v] h = .ok (.bl false) h := by
  unfold m_is_step_row b_is_step_row
  let σ0 := startA 6 [netV ns L, .tup (A.map nI), .tup (B.map nI), v]
  refine (mDef_rt (σ := σ0) (h1 := h) (v := .bl false) ?_).trans (finC_same rfl)
  refine sSeq_ok (σ1 := σ0) (h1 := h) (sExpr_ok (aCall_ok rfl rfl (need N h))) ?_
  exact sSeq_rt ((sIf_t ((tOr_t (tNot_ok (b := false) (aTr_ok (aFn_ok rfl (hv h)))) ))).trans rfl)
end
end G20

namespace G20
open PySem PySem.Spec
open PyProof.Rows hiding St
open L2 AB MG
theorem whole {v : PV} (hv : okP v = true) (h : AH) : m__law_whole [v] h = .ok (.bl (isI v)) h := by
  unfold m__law_whole b__law_whole
  refine (mDef_rt (σ := [some v]) (h1 := h) (v := .bl (isI v)) (sRet_ok ?_)).trans (finC_same rfl)
  cases v <;> first | rfl | cases hv
/-- what one of the parts is -/
theorem part_test {x : PV} (hx : ∀ h, Good x h) (o : PV) (h : AH) : (tOr (tNot (aTr (aFn fnIsi (aCons (aVar 1) (aCons (aC (.raw (.ty "tuple"))) (aNil)))))) (tOr (aB (aOp fNe (aFn fnLen (aCons (aVar 1) (aNil))) (aC (.int 2)))) (tOr (tNot (aTr (aCall 1 m__law_whole (aCons (aOp fIx (aVar 1) (aC (.int 0))) (aNil))))) (tNot (aTr (aCall 1 m__law_whole (aCons (aOp fIx (aVar 1) (aC (.int 1))) (aNil)))))))) [some o, some x] h = .ok (!isP x) h := by
  rcases hx h with ⟨ys, rfl, ok, hz⟩ | ⟨e, q⟩
  · refine (tOr_f (h1 := h) (tNot_ok (b := true) (aTr_ok (aFn_ok rfl (isi_tt _ _))))).trans ?_
    have el : (aB (aOp fNe (aFn fnLen (aCons (aVar 1) (aNil))) (aC (.int 2)))) [some o, some (.tup ys)] h = .ok (!decide ((ys.length : Int) = 2)) h := aB_ok (aOp_ok (aFn_ok rfl (lenT rfl _)) rfl (fNe_i _ _ _))
    by_cases c : (ys.length : Int) = 2
    · rw [decide_eq_true c] at el
      obtain ⟨a, b, rfl⟩ := two_of c
      refine (tOr_f el).trans ?_
      have ea : (tNot (aTr (aCall 1 m__law_whole (aCons (aOp fIx (aVar 1) (aC (.int 0))) (aNil))))) [some o, some (.tup [a, b])] h = .ok (!isI a) h := tNot_ok (aTr_ok (aCall_ok (aCons_ok (aOp_ok rfl rfl (fIx_tup (x := a) rfl)) rfl) rfl (whole (ok a (by simp)) h)))
      have eb : (tNot (aTr (aCall 1 m__law_whole (aCons (aOp fIx (aVar 1) (aC (.int 1))) (aNil))))) [some o, some (.tup [a, b])] h = .ok (!isI b) h := tNot_ok (aTr_ok (aCall_ok (aCons_ok (aOp_ok rfl rfl (fIx_tup (x := b) rfl)) rfl) rfl (whole (ok b (by simp)) h)))
      have ip : isP (.tup [a, b]) = (isI a && isI b) := by cases a <;> cases b <;> rfl
      rw [ip]
      cases ca : isI a with
      | false => rw [ca] at ea; exact tOr_t ea
      | true => rw [ca] at ea; exact (tOr_f ea).trans eb
    · rw [decide_eq_false c] at el
      have ip : isP (.tup ys) = false := by
        match ys, c with
        | [x, y], c => exact absurd rfl c
        | [], _ => rfl
        | [x], _ => cases x <;> rfl
        | x :: y :: _ :: _, _ => cases x <;> cases y <;> rfl
      rw [ip]
      exact tOr_t el
  · have ip : isP x = false := by
      cases c : isP x with
      | false => rfl
      | true =>
        obtain ⟨a, b, rfl⟩ := isP_of c
        rw [show fnIsi [PV.tup [.int a, .int b], .raw (.ty "tuple")] h = .ok (.bl true) h from rfl] at e
        cases e
    rw [ip]
    exact tOr_t (tNot_ok (b := false) (aTr_ok (aFn_ok rfl e)))
theorem are_pairs {xs : List PV} (hz : xs.length ≤ 100) (hg : ∀ x ∈ xs, ∀ h, Good x h) (h : AH) : m__law_are_pairs [.tup xs] h = .ok (.bl (xs.all isP)) h := by
  unfold m__law_are_pairs b__law_are_pairs
  have e := aLc_filter (m := aItS (aVar 0)) (a := itVals xs) (vs := [1]) (g := gN 1) (t := (tOr (tNot (aTr (aFn fnIsi (aCons (aVar 1) (aCons (aC (.raw (.ty "tuple"))) (aNil)))))) (tOr (aB (aOp fNe (aFn fnLen (aCons (aVar 1) (aNil))) (aC (.int 2)))) (tOr (tNot (aTr (aCall 1 m__law_whole (aCons (aOp fIx (aVar 1) (aC (.int 0))) (aNil))))) (tNot (aTr (aCall 1 m__law_whole (aCons (aOp fIx (aVar 1) (aC (.int 1))) (aNil))))))))) (e := aVar 1) (σ := [some (.tup xs), none]) (h := h) (h1 := h) (aItS_tup _ _ _ _ _ rfl) xs (fun x => !isP x) (Nat.le_refl _) (by omega) (fun _ _ _ => rfl) (fun x hx acc => ⟨[some (.tup xs), some x], rfl, part_test (hg x hx) _ _, rfl⟩)
  refine (mDef_rt (σ := [some (.tup xs), none]) (h1 := h ++ [AO.lst (xs.filter fun x => !isP x)]) (v := .bl (xs.all isP)) ?_).trans (finC_ext rfl)
  refine sSeq_ok (σ1 := [some (.tup xs), none]) (h1 := h) ((sIf_f (tNot_ok (b := true) (aTr_ok (aFn_ok rfl (isi_tt _ _))))).trans rfl) ?_
  refine sRet_ok (aOp_ok (aFn_ok (aCons_ok e rfl) (fnLen_seq (seqOf_loc (getLast_app _ _)))) rfl ?_)
  rw [fEq_i]
  have : decide (((xs.filter fun x => !isP x).length : Int) = 0) = xs.all isP := by
    rw [Bool.eq_iff_iff, decide_eq_true_iff, List.all_eq_true]
    constructor
    · intro hl x hx
      have : (xs.filter fun x => !isP x) = [] := List.eq_nil_of_length_eq_zero (by omega)
      have := List.filter_eq_nil_iff.mp this x hx
      simpa using this
    · intro ha
      have : (xs.filter fun x => !isP x) = [] := List.filter_eq_nil_iff.mpr fun x hx => by simp [ha x hx]
      rw [this]; rfl
  rw [this]
section
variable {ns : List Str} {L : List (Str × Nat × Nat)} (N : Net ns L)
include N
theorem leads {A B : List Nat} (TA : Tree ns.length L A) {xs : List PV} (hz : xs.length ≤ 100) (hg : ∀ x ∈ xs, ∀ h, Good x h) (h : AH) :
    m__law_leads [netV ns L, .tup (A.map nI), .tup (B.map nI), .tup xs] h = .ok (.bl (decide (xs.length = (dif A B).length) && ldP L B A xs)) h := by
  unfold m__law_leads b__law_leads
  have la := TA.len
  have l20 := N.l20
  let S : List Nat → Option PV → ASt := fun C o => [some (netV ns L), some (.tup (A.map nI)), some (.tup (B.map nI)), some (.tup xs), some (.tup (C.map nI)), o, none]
  let σ0 := startA 7 [netV ns L, .tup (A.map nI), .tup (B.map nI), .tup xs]
  have ep : (tNot (aTr (aCall 1 m__law_are_pairs (aCons (aVar 3) (aNil))))) σ0 h = .ok (!xs.all isP) h := tNot_ok (aTr_ok (aCall_ok rfl rfl (are_pairs hz hg h)))
  have el := aLc_filter (m := aItS (aVar 1)) (a := itVals (A.map nI)) (vs := [6]) (g := gN 6) (t := aB (aOp fNin (aVar 6) (aVar 2))) (e := aVar 6) (σ := σ0) (h := h) (h1 := h) (aItS_tup _ _ _ _ _ rfl) (A.map nI) (fun x => match x with | .int i => !decide (i.toNat ∈ B) | _ => false) (Nat.le_refl _) (by simp; omega) (fun _ _ _ => rfl) (fun x hx acc => by
    obtain ⟨k, _, rfl⟩ := List.mem_map.mp hx
    exact ⟨[some (netV ns L), some (.tup (A.map nI)), some (.tup (B.map nI)), some (.tup xs), none, none, some (nI k)], rfl, aB_ok (aOp_ok rfl rfl (fNin_nn (seqOf_tup _ _))), rfl⟩)
  rw [filt_nI (fun k => !decide (k ∈ B)) _ (fun k => rfl)] at el
  have ec : (tCut (tOr (tNot (aTr (aCall 1 m__law_are_pairs (aCons (aVar 3) (aNil))))) (aB (aOp fNe (aFn fnLen (aCons (aVar 3) (aNil))) (aFn fnLen (aCons (aLc (aItS (aVar 1)) [6] (gN 6) (aB (aOp fNin (aVar 6) (aVar 2))) (aVar 6)) (aNil))))))) σ0 h = .ok (!(xs.all isP && decide (xs.length = (dif A B).length))) h := by
    cases c : xs.all isP with
    | false =>
      rw [c] at ep
      refine tCut_ext (g := []) ?_
      rw [List.append_nil]
      exact tOr_t ep
    | true =>
      rw [c] at ep
      refine tCut_ext (g := [AO.lst ((dif A B).map nI)]) ?_
      refine (tOr_f ep).trans ?_
      refine aB_ok (aOp_ok (aFn_ok rfl (lenT rfl _)) (aFn_ok (aCons_ok el rfl) ((fnLen_seq (seqOf_loc (getLast_app _ _))).trans (by rw [List.length_map]))) ?_)
      rw [fNe_i]
      have : decide ((xs.length : Int) = ((A.filter fun k => !decide (k ∈ B)).length : Nat)) = decide (xs.length = (dif A B).length) := decide_eq_decide.mpr (by unfold dif; omega)
      rw [this, Bool.true_and]; rfl
  have rsl : ∀ b, (xs.all isP && decide (xs.length = (dif A B).length)) = b → (b = false → (decide (xs.length = (dif A B).length) && ldP L B A xs) = false) := fun b hb hf => by
    cases c : ldP L B A xs with
    | false => rw [Bool.and_false]
    | true =>
      have : xs.all isP = true := List.all_eq_true.mpr (ldP_all c)
      rw [this, Bool.true_and, hf] at hb
      rw [hb]; rfl
  cases c : (xs.all isP && decide (xs.length = (dif A B).length)) with
  | false =>
    rw [rsl false c rfl]
    rw [c] at ec
    refine (mDef_rt (σ := σ0) (h1 := h) (v := .bl false) ?_).trans (finC_same rfl)
    exact sSeq_rt ((sIf_t ec).trans rfl)
  | true =>
    rw [c] at ec
    rw [Bool.and_eq_true] at c
    rw [c.2, Bool.true_and]
    have hp := List.all_eq_true.mp c.1
    obtain ⟨C, o', TC, q⟩ := lead_loop N (b := (sSeq (sIf (aB (aOp fNinD (aVar 5) (aCall 2 m__law_exchanges (aCons (aVar 0) (aCons (aVar 4) (aNil)))))) (sRet (aC (.bl false))) (sNext)) (sSet 4 (aCall 2 m__law_after (aCons (aVar 4) (aCons (aVar 5) (aNil))))))) S h B xs (fun A x o => rfl) (fun x hx D TD => by
      have lD := TD.len
      obtain ⟨a, b, rfl⟩ := isP_of (hp x hx)
      have e1 : (aB (aOp fNinD (aVar 5) (aCall 2 m__law_exchanges (aCons (aVar 0) (aCons (aVar 4) (aNil)))))) (S D (some (.tup [.int a, .int b]))) h = .ok (!isx (exL L D) (.tup [.int a, .int b])) h := by
        refine aB_ok (aOp_ok rfl (aCall_ok rfl rfl (law_ex N TD h)) ?_)
        unfold fNinD
        rw [inD_pairs (seqOf_lst _ _)]
        rfl
      constructor
      · intro c
        rw [c] at e1
        exact sSeq_rt ((sIf_t e1).trans rfl)
      · intro e he hx'
        have : isx (exL L D) (.tup [.int a, .int b]) = true := by rw [hx']; exact isx_in he
        rw [this] at e1
        refine sSeq_ok ((sIf_f e1).trans rfl) (sSet_ok (aCall_ok rfl rfl ?_))
        rw [hx']
        exact law_after (by omega) e.1 e.2 h) xs.length 0 A none (by omega) (Nat.zero_le _) TA
    rw [List.drop_zero] at q
    rcases q with ⟨q1, q2⟩ | ⟨q1, q2⟩
    · rw [q2]
      refine (mDef_rt (σ := S C o') (h1 := h) (v := .bl (decide (C = B))) ?_).trans (finC_same rfl)
      refine sSeq_ok (σ1 := σ0) (h1 := h) ((sIf_f ec).trans rfl) ?_
      refine sSeq_ok (σ1 := S A none) (h1 := h) (sSet_ok rfl) ?_
      refine sSeq_ok (sFor_ok (aItS_tup _ _ _ _ _ rfl) q1) ?_
      exact sRet_ok (aOp_ok rfl rfl (fEqD_nI C B h))
    · rw [q2]
      refine (mDef_rt (σ := S C o') (h1 := h) (v := .bl false) ?_).trans (finC_same rfl)
      refine sSeq_ok (σ1 := σ0) (h1 := h) ((sIf_f ec).trans rfl) ?_
      refine sSeq_ok (σ1 := S A none) (h1 := h) (sSet_ok rfl) ?_
      exact sSeq_rt (sFor_ok (aItS_tup _ _ _ _ _ rfl) q1)
theorem leads_no {A B : List Nat} {v : PV} (hv : ∀ h, fnIsi [v, .raw (.ty "tuple")] h = .ok (.bl false) h) (h : AH) :
    m__law_leads [netV ns L, .tup (A.map nI), .tup (B.map nI), v] h = .ok (.bl false) h := by
  unfold m__law_leads b__law_leads
  let σ0 := startA 7 [netV ns L, .tup (A.map nI), .tup (B.map nI), v]
  have ea : m__law_are_pairs [v] h = .ok (.bl false) h := by
    unfold m__law_are_pairs b__law_are_pairs
    refine (mDef_rt (σ := [some v, none]) (h1 := h) (v := .bl false) ?_).trans (finC_same rfl)
    exact sSeq_rt ((sIf_t (tNot_ok (b := false) (aTr_ok (aFn_ok rfl (hv h))))).trans rfl)
  refine (mDef_rt (σ := σ0) (h1 := h) (v := .bl false) ?_).trans (finC_same rfl)
  refine sSeq_rt ((sIf_t (tCut_ext (g := []) ?_)).trans rfl)
  rw [List.append_nil]
  exact tOr_t (tNot_ok (b := false) (aTr_ok (aCall_ok rfl rfl ea)))
end
end G20

namespace G20
open PySem PySem.Spec
open PyProof.Rows hiding St
open L2 AB MG
noncomputable abbrev bdVA : AS := (sSeq (sSet 7 (aCut (aLc (aItS (aCall 4 m__law_way (aCons (aVar 1) (aCons (aVar 5) (aCons (aOp fIx (aOp fIx (aOp fIx (aVar 1) (aC (.int 1))) (aVar 6)) (aC (.int 1))) (aCons (aOp fIx (aOp fIx (aOp fIx (aVar 1) (aC (.int 1))) (aVar 6)) (aC (.int 2))) (aNil))))))) [9] (gN 9) (aB (aOp fNin (aVar 9) (aVar 3))) (aVar 9)))) (sSeq (sSet 8 (aTup (aCons (aVar 6) (aCons (aOp fIx (aVar 7) (aCall 2 m__law_tip (aCons (aVar 0) (aCons (aFn fnLen (aCons (aVar 7) (aNil))) (aNil))))) (aNil))))) (sSeq (sExpr (aM isL mAppend (aVar 4) (aCons (aVar 8) (aNil)))) (sSet 5 (aCall 2 m__law_after (aCons (aVar 5) (aCons (aVar 8) (aNil))))))))
section
variable {ns : List Str} {L : List (Str × Nat × Nat)} (N : Net ns L)
include N
theorem law_row {h : AH} (t : Tp h) {A B : List Nat} (TA : Tree ns.length L A) (TB : Tree ns.length L B) :
    ∃ (R : List (Nat × Nat)) (h' : AH), m__law_row [.loc 2, netV ns L, .tup (A.map nI), .tup (B.map nI)] h = .ok (.tup (R.map pairV)) h' ∧ Ld L A R B ∧ R.length = (dif A B).length ∧ Mv h h' := by
  unfold m__law_row b__law_row
  have la := TA.len
  have lb := TB.len
  have l20 := N.l20
  let S : List Nat → Option PV → Option PV → Option PV → ASt := fun C o6 o7 o8 => [some (.loc 2), some (netV ns L), some (.tup (A.map nI)), some (.tup (B.map nI)), some (.loc h.length), some (.tup (C.map nI)), o6, o7, o8, none]
  let W := dif B A
  have lW : W.length ≤ B.length := List.length_filter_le _ _
  have nW : W.Nodup := TB.nd.filter _
  let K : AH := [AO.lst (W.map nI)]
  have el := aLc_filter (m := aItS (aVar 3)) (a := itVals (B.map nI)) (vs := [6]) (g := gN 6) (t := aB (aOp fNin (aVar 6) (aVar 2))) (e := aVar 6) (σ := S A none none none) (h := h ++ [AO.lst []]) (h1 := h ++ [AO.lst []]) (aItS_tup _ _ _ _ _ rfl) (B.map nI) (fun x => match x with | .int i => !decide (i.toNat ∈ A) | _ => false) (Nat.le_refl _) (by simp; omega) (fun _ _ _ => rfl) (fun x hx acc => by
    obtain ⟨k, _, rfl⟩ := List.mem_map.mp hx
    exact ⟨S A (some (nI k)) none none, rfl, aB_ok (aOp_ok rfl rfl (fNin_nn (seqOf_tup _ _))), rfl⟩)
  rw [filt_nI (fun k => !decide (k ∈ A)) _ (fun k => rfl)] at el
  obtain ⟨ys, f1, ey, py, m1⟩ := mixed ((t.app [AO.lst []]).app K) (v := .loc (h ++ [AO.lst []]).length) (xs := W.map nI) (seqOf_loc (getLast_app _ _)) (by simp; omega) (low_nI _ _)
  obtain ⟨f2, rfl, m2⟩ := (t.app [AO.lst []]).split m1
  obtain ⟨h1, rfl, m3⟩ := t.split m2
  obtain ⟨row, rfl, prow⟩ := perm_inv (f := nI) (g := fun x => match x with | .int k => k.toNat | _ => 0) (fun x => rfl) py
  have nrow : row.Nodup := prow.nodup_iff.mpr nW
  have lrow : row.length = W.length := prow.length_eq
  have hrow : ∀ k ∈ row, k ∈ B ∧ k ∉ A := fun k hk => mem_dif.mp (prow.mem_iff.mp hk)
  obtain ⟨I, eI, nI', xI⟩ := aItS_lst (aCall 2 m__law_mixed (aCons (aVar 0) (aCons (aLc (aItS (aVar 3)) [6] (gN 6) (aB (aOp fNin (aVar 6) (aVar 2))) (aVar 6)) (aNil)))) (S A none none none) (h ++ [AO.lst []]) (h1 ++ [AO.lst []] ++ K) (row.map nI) (aCall_ok (aCons_ok rfl (aCons_ok el rfl)) rfl ey)
  obtain ⟨σ', g, eF, C, R, o6, o7, o8, h', rfl, rfl, TC, ld, ln, cA, cB, mv⟩ := for_seq (a := I) (g := gN 6) (b := bdVA) (row.map nI)
    (fun i σ g => ∃ (C : List Nat) (R : List (Nat × Nat)) (o6 o7 o8 : Option PV) (h' : AH), σ = S C o6 o7 o8 ∧ g = h' ++ (AO.lst (R.map pairV) :: K) ∧ Tree ns.length L C ∧ Ld L A R C ∧ R.length = i ∧ (∀ k ∈ C, k ∈ A ∨ k ∈ row.take i) ∧ (∀ k ∈ B, k ∈ C ∨ k ∈ row.drop i) ∧ Mv h h') nI' (fun i g => xI i g)
    (σ := S A none none none) (h := h1 ++ [AO.lst []] ++ K) ⟨A, [], none, none, none, h1, rfl, by simp [K], TA, .nil A, rfl, fun k hk => .inl hk, fun k hk => by
      by_cases c : k ∈ A
      · exact .inl c
      · exact .inr (by rw [List.drop_zero]; exact prow.mem_iff.mpr (mem_dif.mpr ⟨hk, c⟩)), m3⟩
    (fun i x σ g ex ⟨C, R, o6, o7, o8, h', e1, e2, TC, ld, ln, cA, cB, mv⟩ => by
      subst e1; subst e2
      rw [List.getElem?_map] at ex
      obtain ⟨l, ek, rfl⟩ := Option.map_eq_some_iff.mp ex
      have il := (List.getElem?_eq_some_iff.mp ek).1
      have et : row.take (i + 1) = row.take i ++ [l] := by rw [List.take_succ, ek]; rfl
      have ed : row.drop i = l :: row.drop (i + 1) := by
        have := List.drop_eq_getElem_cons il
        rw [this]; congr 1; exact (List.getElem?_eq_some_iff.mp ek).2
      obtain ⟨lB, lA⟩ := hrow l (List.mem_of_getElem? ek)
      have lC : l ∉ C := fun c => by
        rcases cA l c with c | c
        · exact lA c
        · have q : (row.take (i + 1)).Nodup := nrow.sublist (List.take_sublist _ _)
          rw [et, List.nodup_append] at q
          exact q.2.2 l c l (by simp) rfl
      have kl := TB.lt l lB
      obtain ⟨ea, eb⟩ := edg_lt N.lt kl
      have lc := TC.len
      let G : AH := h' ++ (AO.lst (R.map pairV) :: K)
      have t' := (t.mv mv).app (AO.lst (R.map pairV) :: K)
      have nk := net_k kl G
      obtain ⟨k1, k2⟩ := edg_at kl G
      obtain ⟨p, ep, w, nd⟩ := law_way N.lt N.n10 TC.lt (by omega) ea (TC.cn _ _ ea eb) G
      have pp : p.Perm (onR L C l) := w.perm TC.nd TC.fst nd
      have lp : p.length ≤ C.length := nd.length_le_of_subset fun k hk => w.mem k hk
      let Y := p.filter fun k => !decide (k ∈ B)
      have lY : Y.length ≤ p.length := List.length_filter_le _ _
      have eY : (aCut (aLc (aItS (aCall 4 m__law_way (aCons (aVar 1) (aCons (aVar 5) (aCons (aOp fIx (aOp fIx (aOp fIx (aVar 1) (aC (.int 1))) (aVar 6)) (aC (.int 1))) (aCons (aOp fIx (aOp fIx (aOp fIx (aVar 1) (aC (.int 1))) (aVar 6)) (aC (.int 2))) (aNil))))))) [9] (gN 9) (aB (aOp fNin (aVar 9) (aVar 3))) (aVar 9))) (S C (some (nI l)) o7 o8) G = .ok (.lst (Y.map nI)) G := by
        have en : (aOp fIx (aOp fIx (aVar 1) (aC (.int 1))) (aVar 6)) (S C (some (nI l)) o7 o8) G = .ok (.tup [.str (L.getD l ("", 0, 0)).1, .int (edg L l).1, .int (edg L l).2]) G := aOp_ok (aOp_ok rfl rfl (net_1 _ _ _)) rfl nk
        have q := aLc_filter (m := aItS (aCall 4 m__law_way (aCons (aVar 1) (aCons (aVar 5) (aCons (aOp fIx (aOp fIx (aOp fIx (aVar 1) (aC (.int 1))) (aVar 6)) (aC (.int 1))) (aCons (aOp fIx (aOp fIx (aOp fIx (aVar 1) (aC (.int 1))) (aVar 6)) (aC (.int 2))) (aNil))))))) (a := itVals (p.map nI)) (vs := [9]) (g := gN 9) (t := aB (aOp fNin (aVar 9) (aVar 3))) (e := aVar 9) (σ := S C (some (nI l)) o7 o8) (h := G) (h1 := G) (aItS_tup _ _ _ _ _ (aCall_ok (aCons_ok rfl (aCons_ok rfl (aCons_ok (aOp_ok en rfl k1) (aCons_ok (aOp_ok en rfl k2) rfl)))) rfl ep)) (p.map nI) (fun x => match x with | .int i => !decide (i.toNat ∈ B) | _ => false) (Nat.le_refl _) (by simp; omega) (fun _ _ _ => rfl) (fun x hx acc => by
          obtain ⟨k, _, rfl⟩ := List.mem_map.mp hx
          exact ⟨[some (.loc 2), some (netV ns L), some (.tup (A.map nI)), some (.tup (B.map nI)), some (.loc h.length), some (.tup (C.map nI)), some (nI l), o7, o8, some (nI k)], rfl, aB_ok (aOp_ok rfl rfl (fNin_nn (seqOf_tup _ _))), rfl⟩)
        rw [filt_nI (fun k => !decide (k ∈ B)) _ (fun k => rfl)] at q
        exact (aCut_ok q).trans (finC_ext (frz_new (Nat.le_refl _) (getLast_app _ _) (low_nI _ _)))
      obtain ⟨o, ho, hb⟩ := ring_out N TC TB lB lC
      have hoY : o ∈ Y := List.mem_filter.mpr ⟨pp.mem_iff.mpr ho, by simp [hb]⟩
      have pY := List.length_pos_of_mem hoY
      have s7 : (sSet 7 (aCut (aLc (aItS (aCall 4 m__law_way (aCons (aVar 1) (aCons (aVar 5) (aCons (aOp fIx (aOp fIx (aOp fIx (aVar 1) (aC (.int 1))) (aVar 6)) (aC (.int 1))) (aCons (aOp fIx (aOp fIx (aOp fIx (aVar 1) (aC (.int 1))) (aVar 6)) (aC (.int 2))) (aNil))))))) [9] (gN 9) (aB (aOp fNin (aVar 9) (aVar 3))) (aVar 9)))) (S C (some (nI l)) o7 o8) G = .fin .nx (S C (some (nI l)) (some (.lst (Y.map nI))) o8) G := sSet_ok eY
      obtain ⟨r, f, er, r0, r1, mr⟩ := tip t' (k := Y.length) (by omega) (by omega)
      obtain ⟨h2, rfl, mr2⟩ := (t.mv mv).split mr
      obtain ⟨r, rfl⟩ : ∃ a : Nat, r = a := ⟨r.toNat, by omega⟩
      have rl : r < Y.length := by omega
      have lh : h2.length = h.length := by rw [mr2.len, mv.len]
      have eln : fnLen [.lst (Y.map nI)] G = .ok (.int Y.length) G := by rw [fnLen_seq (seqOf_lst _ _), List.length_map]
      have eix : fIx (.lst (Y.map nI)) (.int r) (h2 ++ (AO.lst (R.map pairV) :: K)) = .ok (.int Y[r]) (h2 ++ (AO.lst (R.map pairV) :: K)) := fIx_lst (nI_get (List.getElem?_eq_getElem rl))
      have hz := List.mem_filter.mp (List.getElem_mem rl)
      have zR : Y[r] ∈ onR L C l := pp.mem_iff.mp hz.1
      have zB : Y[r] ∉ B := by simpa using hz.2
      have zC := (onR_iff.mp zR).1
      have hin : (l, Y[r]) ∈ exL L C := (ex_mem N).mpr ⟨kl, lC, zR⟩
      have s8 : (sSet 8 (aTup (aCons (aVar 6) (aCons (aOp fIx (aVar 7) (aCall 2 m__law_tip (aCons (aVar 0) (aCons (aFn fnLen (aCons (aVar 7) (aNil))) (aNil))))) (aNil))))) (S C (some (nI l)) (some (.lst (Y.map nI))) o8) G = .fin .nx (S C (some (nI l)) (some (.lst (Y.map nI))) (some (pairV (l, Y[r])))) (h2 ++ (AO.lst (R.map pairV) :: K)) :=
        sSet_ok (aTup_ok (xs := [.int l, .int Y[r]]) (aCons_ok rfl (aCons_ok (aOp_ok rfl (aCall_ok (aCons_ok rfl (aCons_ok (aFn_ok rfl eln) rfl)) rfl er) eix) rfl)) (by simp))
      have ap : mAppend (.loc h.length) [pairV (l, Y[r])] (h2 ++ (AO.lst (R.map pairV) :: K)) = .ok .non (h2 ++ (AO.lst ((R ++ [(l, Y[r])]).map pairV) :: K)) := by
        rw [ap0 lh (by simp; omega)]; simp
      have s9 : (sExpr (aM isL mAppend (aVar 4) (aCons (aVar 8) (aNil)))) (S C (some (nI l)) (some (.lst (Y.map nI))) (some (pairV (l, Y[r])))) (h2 ++ (AO.lst (R.map pairV) :: K)) = .fin .nx (S C (some (nI l)) (some (.lst (Y.map nI))) (some (pairV (l, Y[r])))) (h2 ++ (AO.lst ((R ++ [(l, Y[r])]).map pairV) :: K)) := sExpr_ok (aM_ok rfl (isL0 lh) (aCons_ok rfl rfl) ap)
      have s10 : (sSet 5 (aCall 2 m__law_after (aCons (aVar 5) (aCons (aVar 8) (aNil))))) (S C (some (nI l)) (some (.lst (Y.map nI))) (some (pairV (l, Y[r])))) (h2 ++ (AO.lst ((R ++ [(l, Y[r])]).map pairV) :: K)) = .fin .nx (S (swp C l Y[r]) (some (nI l)) (some (.lst (Y.map nI))) (some (pairV (l, Y[r])))) (h2 ++ (AO.lst ((R ++ [(l, Y[r])]).map pairV) :: K)) := sSet_ok (aCall_ok rfl rfl (law_after (by omega) _ _ _))
      have sw : ∀ k, k ∈ swp C l Y[r] ↔ (k ∈ C ∧ k ≠ Y[r]) ∨ k = l := fun k => by
        unfold swp
        rw [(srtN_perm _).mem_iff, List.mem_append, mem_wo, List.mem_singleton]
      refine ⟨_, _, _, _, rfl, by { refine sSeq_ok s7 ?_; refine sSeq_ok s8 ?_; refine sSeq_ok s9 ?_; exact s10 }, swp C l Y[r], R ++ [(l, Y[r])], _, _, _, h2, rfl, rfl, (swp_tree N TC hin).1, ld.snoc hin, by simp [ln], fun k hk => ?_, fun k hk => ?_, mv.tr mr2⟩
      · rw [et]
        rcases (sw k).mp hk with ⟨a, _⟩ | rfl
        · rcases cA k a with a | a
          · exact .inl a
          · exact .inr (List.mem_append_left _ a)
        · exact .inr (by simp)
      · rcases cB k hk with a | a
        · exact .inl ((sw k).mpr (.inl ⟨a, fun e => zB (e ▸ hk)⟩))
        · rw [ed] at a
          rcases List.mem_cons.mp a with rfl | a
          · exact .inl ((sw _).mpr (.inr rfl))
          · exact .inr a)
  rw [List.length_map] at ln cB
  rw [List.drop_length] at cB
  have eCB : B = C := sub_eq N TB TC fun k hk => by
    rcases cB k hk with a | a
    · exact a
    · cases a
  subst eCB
  have lR : R.length = (dif A B).length := by rw [ln, lrow, dif_sym N TA TB]
  refine ⟨R, h', (mDef_rt (σ := S B o6 o7 o8) (h1 := h' ++ (AO.lst (R.map pairV) :: K)) (v := .tup (R.map pairV)) ?_).trans (finC_mv t mv (frz_below (low_pairs _ _))), ld, lR, mv⟩
  refine sSeq_ok (σ1 := [some (.loc 2), some (netV ns L), some (.tup (A.map nI)), some (.tup (B.map nI)), some (.loc h.length), none, none, none, none, none]) (h1 := h ++ [AO.lst []]) (sSet_ok (aLst_ok (xs := []) rfl (by simp))) ?_
  refine sSeq_ok (σ1 := S A none none none) (h1 := h ++ [AO.lst []]) (sSet_ok rfl) ?_
  refine sSeq_ok (sFor_ok eI eF) ?_
  exact sRet_ok (aFn_ok rfl (fnTuple_s (seqOf_loc (g0 mv.len))))
end
end G20

namespace G20
open PySem PySem.Spec
open PyProof.Rows hiding St
open L2 AB MG
section
variable {ns : List Str} {L : List (Str × Nat × Nat)} (N : Net ns L)
include N
/-- the line that goes in for l in A, and out for it in B -/
noncomputable def evP (L : List (Str × Nat × Nat)) (A B : List Nat) (l m : Nat) : Bool := decide (l ∈ onR L A m) && decide (m ∈ onR L B l)
noncomputable def evF (L : List (Str × Nat × Nat)) (A B : List Nat) (l : Nat) : Option Nat := (dif B A).find? (evP L A B l)
theorem isx_dec {A : List Nat} {c o : Nat} : isx (exL L A) (.tup [.int c, .int o]) = (decide (c < L.length) && decide (c ∉ A) && decide (o ∈ onR L A c)) := by
  rw [Bool.eq_iff_iff, isx_mem, ex_mem N]
  simp [and_assoc]
theorem even_ex {A B : List Nat} (TA : Tree ns.length L A) (TB : Tree ns.length L B) {l : Nat} (hl : l ∈ A) (hn : l ∉ B) (h : AH) :
    m_even_exchange [netV ns L, .tup (A.map nI), .tup (B.map nI), .int l] h = .ok (((evF L A B l).map nI).getD .non) h := by
  unfold m_even_exchange b_even_exchange
  have kl := TA.lt l hl
  let EA : PV := .tup ((exL L A).map pairV)
  let EB : PV := .tup ((exL L B).map pairV)
  let S : Option PV → Option PV → Option PV → ASt := fun o4 o5 o6 => [some (netV ns L), some (.tup (A.map nI)), some (.tup (B.map nI)), some (.int l), o4, o5, o6]
  let V : Nat → Option PV := fun m => if (decide (m ∉ A) && evP L A B l m) = true then some (nI m) else none
  obtain ⟨_, σ', G', ⟨o6, rfl, rfl⟩, eF⟩ := for_some (a := itVals (B.map nI)) (g := gN 6) (b := (sIf (tAnd (aB (aOp fNin (aVar 6) (aVar 1))) (tAnd (aB (aOp fInD (aTup (aCons (aVar 6) (aCons (aVar 3) (aNil)))) (aVar 4))) (aB (aOp fInD (aTup (aCons (aVar 3) (aCons (aVar 6) (aNil)))) (aVar 5))))) (sRet (aVar 6)) (sNext))) nI B V h (fun _ σ G => ∃ o6, σ = S (some EA) (some EB) o6 ∧ G = []) (by simp [itVals]) (fun _ _ => rfl) (fun i m em _ σ G ⟨o6, e1, e2⟩ => by
    subst e1
    have hm := List.mem_of_getElem? em
    have ml := TB.lt m hm
    let τ := S (some EA) (some EB) (some (nI m))
    have t1 : (aB (aOp fNin (aVar 6) (aVar 1))) τ (h ++ G) = .ok (!decide (m ∈ A)) (h ++ G) := aB_ok (aOp_ok rfl rfl (fNin_nn (seqOf_tup _ _)))
    have t2 : (aB (aOp fInD (aTup (aCons (aVar 6) (aCons (aVar 3) (aNil)))) (aVar 4))) τ (h ++ G) = .ok (isx (exL L A) (.tup [.int m, .int l])) (h ++ G) := aB_ok (aOp_ok (aTup_ok (xs := [.int m, .int l]) rfl (by simp)) rfl (inD_pairs (seqOf_tup _ _)))
    have t3 : (aB (aOp fInD (aTup (aCons (aVar 3) (aCons (aVar 6) (aNil)))) (aVar 5))) τ (h ++ G) = .ok (isx (exL L B) (.tup [.int l, .int m])) (h ++ G) := aB_ok (aOp_ok (aTup_ok (xs := [.int l, .int m]) rfl (by simp)) rfl (inD_pairs (seqOf_tup _ _)))
    rw [isx_dec N, decide_eq_true ml, Bool.true_and] at t2
    rw [isx_dec N, decide_eq_true kl, decide_eq_true hn, Bool.true_and, Bool.true_and] at t3
    have ec : (tAnd (aB (aOp fNin (aVar 6) (aVar 1))) (tAnd (aB (aOp fInD (aTup (aCons (aVar 6) (aCons (aVar 3) (aNil)))) (aVar 4))) (aB (aOp fInD (aTup (aCons (aVar 3) (aCons (aVar 6) (aNil)))) (aVar 5))))) τ (h ++ G) = .ok (decide (m ∉ A) && evP L A B l m) (h ++ G) := by
      unfold evP
      by_cases c : m ∈ A
      · rw [decide_eq_true c] at t1
        rw [decide_eq_false (fun q => q c)]
        exact tAnd_f t1
      · rw [decide_eq_false c] at t1
        rw [decide_eq_true c, Bool.true_and] at t2 ⊢
        refine (tAnd_t t1).trans ?_
        cases d : decide (l ∈ onR L A m) with
        | false => rw [d] at t2; exact tAnd_f t2
        | true => rw [d] at t2; rw [Bool.true_and]; exact (tAnd_t t2).trans t3
    refine ⟨τ, τ, G, rfl, ⟨_, rfl, e2⟩, ?_⟩
    show _ = (match (if (decide (m ∉ A) && evP L A B l m) = true then some (nI m) else none) with | some v => _ | none => _)
    by_cases c : (decide (m ∉ A) && evP L A B l m) = true
    · rw [if_pos c]; rw [c] at ec
      exact (sIf_t ec).trans rfl
    · rw [if_neg c]; rw [Bool.not_eq_true] at c; rw [c] at ec
      exact (sIf_f ec).trans rfl) (S (some EA) (some EB) none) [] ⟨none, rfl, rfl⟩
  rw [List.append_nil] at eF
  have ev : B.findSome? V = (evF L A B l).map nI := by
    rw [find_filter]
    unfold evF dif
    rw [List.find?_filter, ← List.head?_filter]
    refine congrArg (fun o => Option.map nI o) (congrArg List.head? (List.filter_congr fun m _ => ?_))
    simp
  rw [ev] at eF
  have d4 : (sSet 4 (aCall 2 m_exchanges_of (aCons (aVar 0) (aCons (aVar 1) (aNil))))) (S none none none) h = .fin .nx (S (some EA) none none) h := sSet_ok (aCall_ok rfl rfl (ex_of N TA h))
  have d5 : (sSet 5 (aCall 2 m_exchanges_of (aCons (aVar 0) (aCons (aVar 2) (aNil))))) (S (some EA) none none) h = .fin .nx (S (some EA) (some EB) none) h := sSet_ok (aCall_ok rfl rfl (ex_of N TB h))
  cases c : evF L A B l with
  | none =>
    rw [c] at eF
    refine (mDef_rt (σ := S (some EA) (some EB) o6) (h1 := h) (v := .non) ?_).trans (finC_same rfl)
    refine sSeq_ok d4 ?_
    refine sSeq_ok d5 ?_
    exact sSeq_ok (sFor_ok (aItS_tup _ _ _ _ _ rfl) eF) rfl
  | some m =>
    rw [c] at eF
    refine (mDef_rt (σ := S (some EA) (some EB) o6) (h1 := h) (v := nI m) ?_).trans (finC_same rfl)
    refine sSeq_ok d4 ?_
    refine sSeq_ok d5 ?_
    exact sSeq_rt (sFor_ok (aItS_tup _ _ _ _ _ rfl) eF)
theorem evF_some {A B : List Nat} (TA : Tree ns.length L A) (TB : Tree ns.length L B) {l : Nat} (hl : l ∈ A) (hn : l ∉ B) : ∃ m, evF L A B l = some m := by
  obtain ⟨m, h1, h2, h3, h4⟩ := even N TA TB hl hn
  have : ((dif B A).find? (evP L A B l)).isSome = true := by
    rw [List.find?_isSome]
    exact ⟨m, mem_dif.mpr ⟨h1, h2⟩, by unfold evP; simp [h3, h4]⟩
  exact Option.isSome_iff_exists.mp this
end
end G20

namespace G20
open PySem PySem.Spec
open PyProof.Rows hiding St
open L2 AB MG
/-- a part of a thing, a thing -/
def PG (x : PV) : Prop := (∀ h, Good x h) ∧ ∀ k, x.low k = true
def GoodT (v : PV) : Prop := ((∃ xs, v = .tup xs ∧ xs.length ≤ 100 ∧ ∀ x ∈ xs, ∀ h, Good x h) ∨ (∀ h, fnIsi [v, .raw (.ty "tuple")] h = .ok (.bl false) h)) ∧ ∀ k, v.low k = true
theorem lows_pg {xs : List PV} (p : ∀ x ∈ xs, PG x) (k : Nat) : PV.lows k xs = true := low_all fun x hx => (p x hx).2 k
theorem gt_tup {xs : List PV} (p : ∀ x ∈ xs, PG x) (hz : xs.length ≤ 100) : GoodT (.tup xs) := ⟨.inl ⟨xs, rfl, hz, fun x hx => (p x hx).1⟩, fun k => lows_pg p k⟩
theorem gt_lst {xs : List PV} (p : ∀ x ∈ xs, PG x) : GoodT (.lst xs) := ⟨.inr fun h => rfl, fun k => lows_pg p k⟩
theorem gt_non : GoodT .non := ⟨.inr fun h => rfl, fun k => rfl⟩
theorem gt_low {ts : List PV} (p : ∀ v ∈ ts, GoodT v) (k : Nat) : PV.lows k ts = true := low_all fun x hx => (p x hx).2 k
theorem pg_pair (e : Nat × Nat) : PG (pairV e) := ⟨fun h => Good.tup rfl (by simp), fun k => rfl⟩
theorem pg_int2 (a b : Int) : PG (.tup [.int a, .int b]) := ⟨fun h => Good.tup rfl (by simp), fun k => rfl⟩
theorem pg_int3 (a b c : Int) : PG (.tup [.int a, .int b, .int c]) := ⟨fun h => Good.tup rfl (by simp), fun k => rfl⟩
theorem pg_bl (a : Bool) (b : Int) : PG (.tup [.bl a, .int b]) := ⟨fun h => Good.tup rfl (by simp), fun k => rfl⟩
theorem pg_lst (a b : Int) : PG (.lst [.int a, .int b]) := ⟨fun h => .inr ⟨rfl, fun X => rfl⟩, fun k => rfl⟩
theorem pg_row {R : List (Nat × Nat)} (hz : R.length ≤ 90) : PG (.tup (R.map pairV)) := ⟨fun h => Good.tup (List.all_eq_true.mpr fun x hx => by obtain ⟨e, _, rfl⟩ := List.mem_map.mp hx; rfl) (by simp; omega), fun k => low_pairs _ _⟩
theorem pg_map {α : Type} {f : α → PV} (p : ∀ a, PG (f a)) (xs : List α) : ∀ x ∈ xs.map f, PG x := fun x hx => by obtain ⟨a, _, rfl⟩ := List.mem_map.mp hx; exact p a
theorem cutP_len {α : Type} (xs : List α) (lo hi : Option Int) : (cutP xs lo hi).length ≤ xs.length := by
  unfold cutP
  rw [List.length_take, List.length_drop]; omega
theorem frz_lst2 {k n : Nat} {h : AH} {xs ys : List PV} (hn : k ≤ n) (e : h[n]? = some (.lst xs)) (f : frzWs k h (frzs k h 2) xs = some ys) : frz k h (.loc n) = some (.lst ys) := by
  unfold frz frzW
  rw [if_neg (by omega), e]
  show (frzWs k h (frzs k h 2) xs).map PV.lst = _
  rw [f]; rfl
theorem frzWs_cons {k : Nat} {h : AH} {f : List PV → Option (List PV)} {v v' : PV} {r r' : List PV} (e1 : frzW k h f v = some v') (e2 : frzWs k h f r = some r') : frzWs k h f (v :: r) = some (v' :: r') := by
  unfold frzWs
  rw [e1, e2]
theorem frzW_loc {k d m : Nat} {h : AH} {zs : List PV} (hm : k ≤ m) (e : h[m]? = some (.lst zs)) (lo : PV.lows k zs = true) : frzW k h (frzs k h d) (.loc m) = some (.lst zs) := by
  unfold frzW
  rw [if_neg (by omega), e]
  show (frzs k h d zs).map PV.lst = _
  rw [frzs_below lo]; rfl
def lsV (e : Nat × Nat) : PV := .lst [.int e.1, .int e.2]
def rvV (e : Nat × Nat) : PV := .tup [.int e.2, .int e.1]
def blV (e : Nat × Nat) : PV := .tup [.bl (decide ((e.1 : Int) = 1)), .int e.2]
def sgB (N a r : PV) (o4 o5 o6 o7 o8 o9 o10 o11 : Option PV) : ASt := [some (.loc 2), some N, some a, some r, o4, o5, o6, o7, o8, o9, o10, o11]
def ts1 (R : List (Nat × Nat)) : List PV := [.tup (R.map pairV).reverse, .lst (R.map pairV), .tup (R.map pairV ++ cutP (R.map pairV) none (some 1)), .tup (cutP (R.map pairV) none (some (-1))), .tup (cutP (R.map pairV) (some 1) none), .tup (R.map lsV)]
def ts2 (R : List (Nat × Nat)) : List PV := [.tup (R.map rvV), .non, .tup [.tup (R.map pairV)], .tup (R.map blV)]
theorem ts1_good {R : List (Nat × Nat)} (hz : R.length ≤ 40) : ∀ v ∈ ts1 R, GoodT v := fun v hv => by
  have p := pg_map pg_pair R
  have lz : (R.map pairV).length = R.length := List.length_map ..
  unfold ts1 at hv
  simp only [List.mem_cons, List.not_mem_nil, or_false] at hv
  rcases hv with rfl | rfl | rfl | rfl | rfl | rfl
  · exact gt_tup (fun x hx => p x (List.mem_reverse.mp hx)) (by simp; omega)
  · exact gt_lst p
  · refine gt_tup (fun x hx => ?_) ?_
    · rcases List.mem_append.mp hx with hx | hx
      · exact p x hx
      · exact p x (cutP_mem hx)
    · have := cutP_len (R.map pairV) none (some 1)
      rw [List.length_append]; omega
  · exact gt_tup (fun x hx => p x (cutP_mem hx)) (by have := cutP_len (R.map pairV) none (some (-1)); omega)
  · exact gt_tup (fun x hx => p x (cutP_mem hx)) (by have := cutP_len (R.map pairV) (some 1) none; omega)
  · exact gt_tup (pg_map (fun e => pg_lst _ _) R) (by simp; omega)
theorem ts2_good {R : List (Nat × Nat)} (hz : R.length ≤ 40) : ∀ v ∈ ts2 R, GoodT v := fun v hv => by
  unfold ts2 at hv
  simp only [List.mem_cons, List.not_mem_nil, or_false] at hv
  rcases hv with rfl | rfl | rfl | rfl
  · exact gt_tup (pg_map (fun e => pg_int2 _ _) R) (by simp; omega)
  · exact gt_non
  · exact gt_tup (fun x hx => by rw [List.mem_singleton] at hx; subst hx; exact pg_row (by omega)) (by simp)
  · exact gt_tup (pg_map (fun e => pg_bl _ _) R) (by simp; omega)
theorem lc_pairs {N a : PV} {R : List (Nat × Nat)} (hz : R.length ≤ 40) (o4 o5 o6 o7 o8 o9 o10 o11 : Option PV) (e : AE) (f : Nat × Nat → PV) (h : AH)
    (he : ∀ p ∈ R, ∀ acc, e (sgB N a (.tup (R.map pairV)) o4 o5 o6 (some (pairV p)) o8 o9 o10 o11) (h ++ [AO.lst acc]) = .ok (f p) (h ++ [AO.lst acc])) :
    (aFn fnTuple (aCons (aLc (aItS (aVar 3)) [7] (gN 7) (tYes') e) (aNil))) (sgB N a (.tup (R.map pairV)) o4 o5 o6 o7 o8 o9 o10 o11) h = .ok (.tup (R.map f)) (h ++ [AO.lst (R.map f)]) := by
  have q := aLc_map (m := aItS (aVar 3)) (a := itVals (R.map pairV)) (vs := [7]) (g := gN 7) (t := tYes') (e := e) (σ := sgB N a (.tup (R.map pairV)) o4 o5 o6 o7 o8 o9 o10 o11) (h := h) (h1 := h) (aItS_tup _ _ _ _ _ rfl) (R.map pairV) (fun x => match x with | .tup [.int a, .int b] => f (a.toNat, b.toNat) | x => x) (Nat.le_refl _) (by simp; omega) (fun _ _ _ => rfl) (fun x hx acc => by
    obtain ⟨p, hp, rfl⟩ := List.mem_map.mp hx
    exact ⟨_, rfl, rfl, he p hp acc⟩)
  have em : (R.map pairV).map (fun x => match x with | .tup [.int a, .int b] => f (a.toNat, b.toNat) | x => x) = R.map f := by
    rw [List.map_map]; rfl
  rw [em] at q
  exact aFn_ok (aCons_ok q rfl) (fnTuple_s (seqOf_loc (getLast_app _ _)))
section
variable {N a : PV} {R : List (Nat × Nat)} (hz : R.length ≤ 40)
include hz
theorem b4 (h : AH) : (sSet 4 (aCut (aLst (aCons (aUn fRevT (aVar 3)) (aCons (aFn fnList (aCons (aVar 3) (aNil))) (aCons (aOp fAdd (aVar 3) (aSl (aVar 3) (aNoP) (aSoP (aC (.int 1))))) (aCons (aSl (aVar 3) (aNoP) (aSoP (aUn fNeg (aC (.int 1))))) (aCons (aSl (aVar 3) (aSoP (aC (.int 1))) (aNoP)) (aCons (aFn fnTuple (aCons (aLc (aItS (aVar 3)) [7] (gN 7) (tYes') (aCut (aFn fnList (aCons (aVar 7) (aNil))))) (aNil))) (aNil)))))))))) (sgB N a (.tup (R.map pairV)) none none none none none none none none) h = .fin .nx (sgB N a (.tup (R.map pairV)) (some (.lst (ts1 R))) none none none none none none none) h := by
  let r := R.map pairV
  let σ := sgB N a (.tup r) none none none none none none none none
  let h1 : AH := h ++ [AO.lst r]
  let h2 : AH := h1 ++ [AO.lst (R.map lsV)]
  have lr : r.length = R.length := List.length_map ..
  have x1 : (aUn fRevT (aVar 3)) σ h = .ok (.tup r.reverse) h := rfl
  have x2 : (aFn fnList (aCons (aVar 3) (aNil))) σ h = .ok (.loc h.length) h1 := aFn_ok rfl (fnList_s (seqOf_tup _ _))
  have c1 := cutP_len r none (some 1)
  have x3 : (aOp fAdd (aVar 3) (aSl (aVar 3) (aNoP) (aSoP (aC (.int 1))))) σ h1 = .ok (.tup (r ++ cutP r none (some 1))) h1 := aOp_ok (x := .tup r) (y := .tup (cutP r none (some 1))) rfl rfl (fAdd_t (by omega))
  have x4 : (aSl (aVar 3) (aNoP) (aSoP (aUn fNeg (aC (.int 1))))) σ h1 = .ok (.tup (cutP r none (some (-1)))) h1 := rfl
  have x5 : (aSl (aVar 3) (aSoP (aC (.int 1))) (aNoP)) σ h1 = .ok (.tup (cutP r (some 1) none)) h1 := rfl
  have x6 := lc_pairs (N := N) (a := a) hz none none none none none none none none (aCut (aFn fnList (aCons (aVar 7) (aNil)))) lsV h1 (fun p _ acc => (aCut_ok (aFn_ok rfl (fnList_s (xs := [.int p.1, .int p.2]) rfl))).trans (finC_ext (frz_new (Nat.le_refl _) (getLast_app _ _) rfl)))
  have e := aLst_ok (aCons_ok x1 (aCons_ok x2 (aCons_ok x3 (aCons_ok x4 (aCons_ok x5 (aCons_ok (l := aNil) x6 rfl)))))) (by simp)
  refine sSet_ok ((aCut_ok e).trans ?_)
  have eh : ∀ xs, h1 ++ [AO.lst (R.map lsV)] ++ [AO.lst xs] = h ++ (AO.lst r :: AO.lst (R.map lsV) :: [AO.lst xs]) := fun xs => by simp [h1]
  have el : (h1 ++ [AO.lst (R.map lsV)]).length = h.length + 2 := by simp [h1]
  rw [eh, el]
  refine finC_ext (frz_lst2 (by omega) (g2 rfl) ?_)
  have lo : ∀ k, PV.lows k r = true := fun k => low_pairs _ _
  have lc : ∀ k (lo' hi : Option Int), PV.lows k (cutP r lo' hi) = true := fun k lo' hi => lows_pg (fun x hx => pg_map pg_pair R x (cutP_mem hx)) k
  refine frzWs_cons (frzW_below _ (lows_pg (xs := r.reverse) (fun x hx => pg_map pg_pair R x (List.mem_reverse.mp hx)) _)) ?_
  refine frzWs_cons (frzW_loc (Nat.le_refl _) (g0 rfl) (lo _)) ?_
  refine frzWs_cons (frzW_below _ (lows_pg (xs := r ++ cutP r none (some 1)) (fun x hx => by
    rcases List.mem_append.mp hx with hx | hx
    · exact pg_map pg_pair R x hx
    · exact pg_map pg_pair R x (cutP_mem hx)) _)) ?_
  refine frzWs_cons (frzW_below _ (lc _ none (some (-1)))) ?_
  refine frzWs_cons (frzW_below _ (lc _ (some 1) none)) ?_
  refine frzWs_cons (frzW_below _ (lows_pg (xs := R.map lsV) (pg_map (fun e => pg_lst _ _) R) _)) ?_
  rfl
omit hz in
/-- things and some more -/
theorem addT {σ : ASt} {h g : AH} {ts ts' : List PV} {l : AL} (e4 : ∀ G, aVar 4 σ G = .ok (.lst ts) G) (el : l σ h = .ok ts' (h ++ g)) (lz : ts.length ≤ 100) (lz' : ts'.length ≤ 100) (lo : ∀ k, PV.lows k (ts ++ ts') = true) :
    (aCut (aOp fAdd (aVar 4) (aLst l))) σ h = .ok (.lst (ts ++ ts')) h := by
  have e := aLst_ok el (by omega)
  have q : (aOp fAdd (aVar 4) (aLst l)) σ h = .ok (.loc (h ++ g ++ [AO.lst ts']).length) (h ++ g ++ [AO.lst ts'] ++ [AO.lst (ts ++ ts')]) := aOp_ok (e4 _) e (fAdd_ll (getLast_app _ _) (by omega))
  refine (aCut_ok q).trans ?_
  rw [List.append_assoc, List.append_assoc]
  refine finC_ext (frz_new (by simp) ?_ (lo _))
  rw [← List.append_assoc, ← List.append_assoc]
  exact getLast_app _ _
theorem b5 (h : AH) : (sSet 4 (aCut (aOp fAdd (aVar 4) (aLst (aCons (aFn fnTuple (aCons (aLc (aItS (aVar 3)) [7] (gN 7) (tYes') (aCut (aUn fRevT (aVar 7)))) (aNil))) (aCons (aC .non) (aCons (aTup (aCons (aVar 3) (aNil))) (aCons (aFn fnTuple (aCons (aLc (aItS (aVar 3)) [7] (gN 7) (tYes') (aTup (aCons (aOp fEq (aOp fIx (aVar 7) (aC (.int 0))) (aC (.int 1))) (aCons (aOp fIx (aVar 7) (aC (.int 1))) (aNil))))) (aNil))) (aNil))))))))) (sgB N a (.tup (R.map pairV)) (some (.lst (ts1 R))) none none none none none none none) h = .fin .nx (sgB N a (.tup (R.map pairV)) (some (.lst (ts1 R ++ ts2 R))) none none none none none none none) h := by
  let σ := sgB N a (.tup (R.map pairV)) (some (.lst (ts1 R))) none none none none none none none
  have x1 := lc_pairs (N := N) (a := a) hz (some (.lst (ts1 R))) none none none none none none none (aCut (aUn fRevT (aVar 7))) rvV h (fun p _ acc => (aCut_ok (v := rvV p) (h1 := h ++ [AO.lst acc]) rfl).trans (finC_same rfl))
  have x4 := lc_pairs (N := N) (a := a) hz (some (.lst (ts1 R))) none none none none none none none (aTup (aCons (aOp fEq (aOp fIx (aVar 7) (aC (.int 0))) (aC (.int 1))) (aCons (aOp fIx (aVar 7) (aC (.int 1))) (aNil)))) blV (h ++ [AO.lst (R.map rvV)]) (fun p _ acc => aTup_ok (aCons_ok (aOp_ok (aOp_ok rfl rfl (fIx_tup (x := .int p.1) rfl)) rfl (fEq_i _ _ _)) (aCons_ok (aOp_ok rfl rfl (fIx_tup (x := .int p.2) rfl)) rfl)) (by simp))
  have g1 := ts1_good (R := R) hz
  have g2 := ts2_good (R := R) hz
  refine sSet_ok (addT (g := [AO.lst (R.map rvV)] ++ [AO.lst (R.map blV)]) (ts' := ts2 R) (fun _ => rfl) ?_ (by simp [ts1]) (by simp [ts2]) (fun k => gt_low (fun v hv => ?_) k))
  · rw [← List.append_assoc]
    exact aCons_ok x1 (aCons_ok rfl (aCons_ok (aTup_ok (xs := [.tup (R.map pairV)]) rfl (by simp)) (aCons_ok x4 rfl)))
  · rcases List.mem_append.mp hv with hv | hv
    · exact g1 v hv
    · exact g2 v hv
end
end G20

namespace G20
open PySem PySem.Spec
open PyProof.Rows hiding St
open L2 AB MG
noncomputable abbrev bC : AT := (tAnd (aB (aOp fGt (aFn fnLen (aCons (aVar 3) (aNil))) (aC (.int 0)))) (aB (aOp fGt (aFn fnLen (aCons (aVar 5) (aNil))) (aC (.int 0)))))
noncomputable abbrev bT : AS := (sSeq (sSet 6 (aCall 2 m__law_tip (aCons (aVar 0) (aCons (aFn fnLen (aCons (aVar 3) (aNil))) (aNil))))) (sSeq (sSet 7 (aOp fIx (aVar 5) (aCall 2 m__law_tip (aCons (aVar 0) (aCons (aFn fnLen (aCons (aVar 5) (aNil))) (aNil)))))) (sSeq (sAsg (aOp fIx (aVar 3) (aVar 6)) (gTup' 2 (gCons' (gN 8) (gCons' (gN 9) (gNil'))))) (sSeq (sSet 4 (aCut (aOp fAdd (aVar 4) (aLst (aCons (aOp fAdd (aOp fAdd (aSl (aVar 3) (aNoP) (aSoP (aVar 6))) (aTup (aCons (aVar 7) (aNil)))) (aSl (aVar 3) (aSoP (aOp fAdd (aVar 6) (aC (.int 1)))) (aNoP))) (aCons (aOp fAdd (aOp fAdd (aSl (aVar 3) (aNoP) (aSoP (aVar 6))) (aTup (aCons (aTup (aCons (aVar 8) (aCons (aOp fIx (aVar 7) (aC (.int 1))) (aNil)))) (aNil)))) (aSl (aVar 3) (aSoP (aOp fAdd (aVar 6) (aC (.int 1)))) (aNoP))) (aCons (aOp fAdd (aTup (aCons (aVar 7) (aCons (aUn fRevT (aVar 7)) (aNil)))) (aVar 3)) (aCons (aOp fAdd (aOp fAdd (aSl (aVar 3) (aNoP) (aSoP (aVar 6))) (aTup (aCons (aTup (aCons (aVar 8) (aCons (aVar 9) (aCons (aC (.int 0)) (aNil))))) (aNil)))) (aSl (aVar 3) (aSoP (aOp fAdd (aVar 6) (aC (.int 1)))) (aNoP))) (aNil))))))))) (sSeq (sSet 10 (aCall 2 m__law_tip (aCons (aVar 0) (aCons (aFn fnLen (aCons (aVar 3) (aNil))) (aNil))))) (sSeq (sSet 11 (aFn fnList (aCons (aVar 3) (aNil)))) (sSeq (sAsg (aTup (aCons (aTup (aCons (aVar 8) (aCons (aOp fIx (aOp fIx (aVar 3) (aVar 10)) (aC (.int 1))) (aNil)))) (aCons (aTup (aCons (aOp fIx (aOp fIx (aVar 3) (aVar 10)) (aC (.int 0))) (aCons (aVar 9) (aNil)))) (aNil)))) (gTup' 2 (gCons' (gSubL (aVar 11) (aVar 6)) (gCons' (gSubL (aVar 11) (aVar 10)) (gNil'))))) (sSet 4 (aCut (aOp fAdd (aVar 4) (aOp fMul (aLst (aCons (aFn fnTuple (aCons (aVar 11) (aNil))) (aNil))) (aC (.int 2)))))))))))))
def AllG (ts : List PV) : Prop := ∀ v ∈ ts, GoodT v
theorem AllG.app {a b : List PV} (x : AllG a) (y : AllG b) : AllG (a ++ b) := fun v hv => by
  rcases List.mem_append.mp hv with hv | hv
  · exact x v hv
  · exact y v hv
theorem pg_app {a b : List PV} (x : ∀ v ∈ a, PG v) (y : ∀ v ∈ b, PG v) : ∀ v ∈ a ++ b, PG v := fun v hv => by
  rcases List.mem_append.mp hv with hv | hv
  · exact x v hv
  · exact y v hv
theorem pg_one {v : PV} (x : PG v) : ∀ w ∈ [v], PG w := fun w hw => by rw [List.mem_singleton] at hw; subst hw; exact x
theorem pg_set {xs : List PV} (p : ∀ v ∈ xs, PG v) {x : PV} (q : PG x) (i : Nat) : ∀ v ∈ xs.set i x, PG v := fun v hv => by
  rcases List.mem_or_eq_of_mem_set hv with hv | rfl
  · exact p v hv
  · exact q
section
variable {N a : PV} {R E : List (Nat × Nat)} (hz : R.length ≤ 40) (he : E.length ≤ 400)
include hz he
theorem bent_if {h : AH} (t : Tp h) {ts : List PV} (gt : AllG ts) (lt : ts.length ≤ 20) :
    ∃ (ts' : List PV) (h' g : AH) (σ' : ASt), (sIf bC bT (sNext)) (sgB N a (.tup (R.map pairV)) (some (.lst ts)) (some (.lst (E.map pairV))) none none none none none none) h = .fin .nx σ' (h' ++ g) ∧ (∀ G, aVar 4 σ' G = .ok (.lst ts') G) ∧ (∀ G, aVar 0 σ' G = .ok (.loc 2) G) ∧ AllG ts' ∧ ts.length ≤ ts'.length ∧ ts'.length ≤ 50 ∧ Mv h h' := by
  let r := R.map pairV
  let S := sgB N a (.tup r)
  let ev : PV := .lst (E.map pairV)
  have lr : r.length = R.length := List.length_map ..
  have pr : ∀ v ∈ r, PG v := pg_map pg_pair R
  have e1 : ∀ (o4 o6 o7 o8 o9 o10 o11 : Option PV) (G : AH), fnLen [PV.tup r] G = .ok (.int R.length) G := fun _ _ _ _ _ _ _ G => by rw [fnLen_seq (seqOf_tup _ _), lr]
  have lenR : ∀ G, fnLen [PV.tup r] G = .ok (.int R.length) G := fun G => by rw [fnLen_seq (seqOf_tup _ _), lr]
  have lenE : ∀ G, fnLen [ev] G = .ok (.int E.length) G := fun G => by rw [fnLen_seq (seqOf_lst _ _), List.length_map]
  let σ0 := S (some (.lst ts)) (some ev) none none none none none none
  have c1 : (aB (aOp fGt (aFn fnLen (aCons (aVar 3) (aNil))) (aC (.int 0)))) σ0 h = .ok (decide ((0 : Int) < R.length)) h := aB_ok (aOp_ok (aFn_ok rfl (lenR _)) rfl (fGt_i _ _ _))
  have c2 : (aB (aOp fGt (aFn fnLen (aCons (aVar 5) (aNil))) (aC (.int 0)))) σ0 h = .ok (decide ((0 : Int) < E.length)) h := aB_ok (aOp_ok (aFn_ok rfl (lenE _)) rfl (fGt_i _ _ _))
  by_cases d1 : 0 < R.length
  · rw [decide_eq_true (by omega)] at c1
    by_cases d2 : 0 < E.length
    · rw [decide_eq_true (by omega)] at c2
      obtain ⟨s, h1, es, s0, s1, m1⟩ := tip t (k := R.length) (by omega) (by omega)
      obtain ⟨s, rfl⟩ : ∃ k : Nat, s = k := ⟨s.toNat, by omega⟩
      have t1 := t.mv m1
      obtain ⟨p, h2, ep, p0, p1, m2⟩ := tip t1 (k := E.length) (by omega) (by omega)
      obtain ⟨p, rfl⟩ : ∃ k : Nat, p = k := ⟨p.toNat, by omega⟩
      have t2 := t1.mv m2
      have sl : s < R.length := by omega
      have pl : p < E.length := by omega
      let e := R[s]
      let f := E[p]
      have ixR : ∀ (i : Nat) (hi : i < R.length) (G : AH), fIx (.tup r) (.int i) G = .ok (pairV R[i]) G := fun i hi G => fIx_tup (atI_nat (by show (R.map pairV)[i]? = _; rw [List.getElem?_map, List.getElem?_eq_getElem hi]; rfl))
      have ixE : ∀ G, fIx ev (.int p) G = .ok (pairV f) G := fun G => fIx_lst (atI_nat (by rw [List.getElem?_map, List.getElem?_eq_getElem pl]; rfl))
      let σ1 := S (some (.lst ts)) (some ev) (some (.int s)) none none none none none
      let σ2 := S (some (.lst ts)) (some ev) (some (.int s)) (some (pairV f)) none none none none
      let σ3 : Option PV → Option PV → Option PV → ASt := fun o4 o10 o11 => S o4 (some ev) (some (.int s)) (some (pairV f)) (some (.int e.1)) (some (.int e.2)) o10 o11
      have q1 : (sSet 6 (aCall 2 m__law_tip (aCons (aVar 0) (aCons (aFn fnLen (aCons (aVar 3) (aNil))) (aNil))))) σ0 h = .fin .nx σ1 h1 := sSet_ok (aCall_ok (aCons_ok rfl (aCons_ok (aFn_ok rfl (lenR _)) rfl)) rfl es)
      have q2 : (sSet 7 (aOp fIx (aVar 5) (aCall 2 m__law_tip (aCons (aVar 0) (aCons (aFn fnLen (aCons (aVar 5) (aNil))) (aNil)))))) σ1 h1 = .fin .nx σ2 h2 := sSet_ok (aOp_ok rfl (aCall_ok (aCons_ok rfl (aCons_ok (aFn_ok rfl (lenE _)) rfl)) rfl ep) (ixE _))
      have q3 : (sAsg (aOp fIx (aVar 3) (aVar 6)) (gTup' 2 (gCons' (gN 8) (gCons' (gN 9) (gNil'))))) σ2 h2 = .fin .nx (σ3 (some (.lst ts)) none none) h2 := sAsg_ok (v := pairV e) (aOp_ok rfl rfl (ixR s sl _)) rfl
      let lo := cutP r none (some (s : Int))
      let hi := cutP r (some ((s : Int) + 1)) none
      have clo : lo.length ≤ R.length := lr ▸ cutP_len r none (some (s : Int))
      have chi : hi.length ≤ R.length := lr ▸ cutP_len r (some ((s : Int) + 1)) none
      have plo : ∀ v ∈ lo, PG v := fun v hv => pr v (cutP_mem hv)
      have phi : ∀ v ∈ hi, PG v := fun v hv => pr v (cutP_mem hv)
      let new : List PV := [.tup (lo ++ [pairV f] ++ hi), .tup (lo ++ [.tup [.int e.1, .int f.2]] ++ hi), .tup ([pairV f, .tup [.int f.2, .int f.1]] ++ r), .tup (lo ++ [.tup [.int e.1, .int e.2, .int 0]] ++ hi)]
      have gnew : AllG new := fun v hv => by
        simp only [new, List.mem_cons, List.not_mem_nil, or_false] at hv
        rcases hv with rfl | rfl | rfl | rfl
        · exact gt_tup (pg_app (pg_app plo (pg_one (pg_pair _))) phi) (by simp only [List.length_append, List.length_singleton]; omega)
        · exact gt_tup (pg_app (pg_app plo (pg_one (pg_int2 _ _))) phi) (by simp only [List.length_append, List.length_singleton]; omega)
        · refine gt_tup (pg_app (fun w hw => ?_) pr) (by simp only [List.length_append, List.length_cons, List.length_nil]; omega)
          rcases List.mem_cons.mp hw with rfl | hw
          · exact pg_pair _
          · rw [List.mem_singleton] at hw; subst hw; exact pg_int2 _ _
        · exact gt_tup (pg_app (pg_app plo (pg_one (pg_int3 _ _ _))) phi) (by simp only [List.length_append, List.length_singleton]; omega)
      let τ := σ3 (some (.lst ts)) none none
      have slo : ∀ G, (aSl (aVar 3) (aNoP) (aSoP (aVar 6))) τ G = .ok (.tup lo) G := fun G => rfl
      have shi : ∀ G, (aSl (aVar 3) (aSoP (aOp fAdd (aVar 6) (aC (.int 1)))) (aNoP)) τ G = .ok (.tup hi) G := fun G => rfl
      have mid : ∀ (m : AE) (v : PV) (G : AH), m τ G = .ok v G → (aOp fAdd (aOp fAdd (aSl (aVar 3) (aNoP) (aSoP (aVar 6))) (aTup (aCons m (aNil)))) (aSl (aVar 3) (aSoP (aOp fAdd (aVar 6) (aC (.int 1)))) (aNoP))) τ G = .ok (.tup (lo ++ [v] ++ hi)) G := fun m v G em =>
        aOp_ok (aOp_ok (slo G) (aTup_ok (xs := [v]) (aCons_ok em rfl) (by simp)) (fAdd_t (by simp only [List.length_singleton]; omega))) (shi G) (fAdd_t (by simp only [List.length_append, List.length_singleton]; omega))
      have el : (aCons (aOp fAdd (aOp fAdd (aSl (aVar 3) (aNoP) (aSoP (aVar 6))) (aTup (aCons (aVar 7) (aNil)))) (aSl (aVar 3) (aSoP (aOp fAdd (aVar 6) (aC (.int 1)))) (aNoP))) (aCons (aOp fAdd (aOp fAdd (aSl (aVar 3) (aNoP) (aSoP (aVar 6))) (aTup (aCons (aTup (aCons (aVar 8) (aCons (aOp fIx (aVar 7) (aC (.int 1))) (aNil)))) (aNil)))) (aSl (aVar 3) (aSoP (aOp fAdd (aVar 6) (aC (.int 1)))) (aNoP))) (aCons (aOp fAdd (aTup (aCons (aVar 7) (aCons (aUn fRevT (aVar 7)) (aNil)))) (aVar 3)) (aCons (aOp fAdd (aOp fAdd (aSl (aVar 3) (aNoP) (aSoP (aVar 6))) (aTup (aCons (aTup (aCons (aVar 8) (aCons (aVar 9) (aCons (aC (.int 0)) (aNil))))) (aNil)))) (aSl (aVar 3) (aSoP (aOp fAdd (aVar 6) (aC (.int 1)))) (aNoP))) (aNil))))) τ h2 = .ok new (h2 ++ []) := by
        rw [List.append_nil]
        exact aCons_ok (mid _ _ _ rfl) (aCons_ok (mid _ _ _ (aTup_ok (xs := [.int e.1, .int f.2]) (aCons_ok rfl (aCons_ok (aOp_ok rfl rfl (fIx_tup (x := .int f.2) rfl)) rfl)) (by simp))) (aCons_ok (aOp_ok (aTup_ok (xs := [pairV f, .tup [.int f.2, .int f.1]]) rfl (by simp)) rfl (fAdd_t (by simp only [List.length_cons, List.length_nil]; omega))) (aCons_ok (mid _ _ _ (aTup_ok (xs := [.int e.1, .int e.2, .int 0]) rfl (by simp))) rfl)))
      have q4 := addT (σ := τ) (h := h2) (g := []) (ts := ts) (ts' := new) (fun _ => rfl) el (by omega) (by simp [new]) (gt_low (gt.app gnew))
      let ts2' := ts ++ new
      have l2 : ts2'.length = ts.length + 4 := by simp [ts2', new]
      obtain ⟨o, h3, eo, o0, o1, m3⟩ := tip t2 (k := R.length) (by omega) (by omega)
      obtain ⟨o, rfl⟩ : ∃ k : Nat, o = k := ⟨o.toNat, by omega⟩
      have ol : o < R.length := by omega
      let c := R[o]
      have q5 : (sSet 10 (aCall 2 m__law_tip (aCons (aVar 0) (aCons (aFn fnLen (aCons (aVar 3) (aNil))) (aNil))))) (σ3 (some (.lst ts2')) none none) h2 = .fin .nx (σ3 (some (.lst ts2')) (some (.int o)) none) h3 := sSet_ok (aCall_ok (aCons_ok rfl (aCons_ok (aFn_ok rfl (lenR _)) rfl)) rfl eo)
      have q6 : (sSet 11 (aFn fnList (aCons (aVar 3) (aNil)))) (σ3 (some (.lst ts2')) (some (.int o)) none) h3 = .fin .nx (σ3 (some (.lst ts2')) (some (.int o)) (some (.loc h3.length))) (h3 ++ [AO.lst r]) := sSet_ok (aFn_ok rfl (fnList_s (seqOf_tup _ _)))
      let τ6 := σ3 (some (.lst ts2')) (some (.int o)) (some (.loc h3.length))
      let x1 : PV := .tup [.int e.1, .int c.2]
      let x2 : PV := .tup [.int c.1, .int e.2]
      let rs := (r.set s x1).set o x2
      have q7 : (sAsg (aTup (aCons (aTup (aCons (aVar 8) (aCons (aOp fIx (aOp fIx (aVar 3) (aVar 10)) (aC (.int 1))) (aNil)))) (aCons (aTup (aCons (aOp fIx (aOp fIx (aVar 3) (aVar 10)) (aC (.int 0))) (aCons (aVar 9) (aNil)))) (aNil)))) (gTup' 2 (gCons' (gSubL (aVar 11) (aVar 6)) (gCons' (gSubL (aVar 11) (aVar 10)) (gNil'))))) τ6 (h3 ++ [AO.lst r]) = .fin .nx τ6 (h3 ++ [AO.lst rs]) := by
        refine sAsg_ok (v := .tup [x1, x2]) (aTup_ok (xs := [x1, x2]) (aCons_ok (aTup_ok (xs := [.int e.1, .int c.2]) (aCons_ok rfl (aCons_ok (aOp_ok (aOp_ok rfl rfl (ixR o ol _)) rfl (fIx_tup (x := .int c.2) rfl)) rfl)) (by simp)) (aCons_ok (aTup_ok (xs := [.int c.1, .int e.2]) (aCons_ok (aOp_ok (aOp_ok rfl rfl (ixR o ol _)) rfl (fIx_tup (x := .int c.1) rfl)) rfl) (by simp)) rfl)) (by simp)) ?_
        have g1 : gSubL (aVar 11) (aVar 6) x1 τ6 (h3 ++ [AO.lst r]) = some (τ6, h3 ++ [AO.lst (r.set s x1)]) := by
          rw [gSubL_ok (n := h3.length) (k := (s : Int)) (xs := r) rfl rfl (getLast_app _ _) (by omega) (by rw [lr]; omega), set_last]; rfl
        have g2 : gSubL (aVar 11) (aVar 10) x2 τ6 (h3 ++ [AO.lst (r.set s x1)]) = some (τ6, h3 ++ [AO.lst rs]) := by
          rw [gSubL_ok (n := h3.length) (k := (o : Int)) (xs := r.set s x1) rfl rfl (getLast_app _ _) (by omega) (by rw [List.length_set, lr]; omega), set_last]; rfl
        rw [gTup'_eq, if_pos (show [x1, x2].length = 2 from rfl), gCons'_eq, g1]
        dsimp only
        rw [gCons'_eq, g2]; rfl
      have prs : ∀ v ∈ rs, PG v := pg_set (pg_set pr (pg_int2 _ _) s) (pg_int2 _ _) o
      have lrs : rs.length = R.length := by simp [rs, lr]
      have gtt : AllG [PV.tup rs, .tup rs] := fun v hv => by
        have : v = .tup rs := by simpa using hv
        subst this; exact gt_tup prs (by omega)
      have q8 : (aCut (aOp fAdd (aVar 4) (aOp fMul (aLst (aCons (aFn fnTuple (aCons (aVar 11) (aNil))) (aNil))) (aC (.int 2))))) τ6 (h3 ++ [AO.lst rs]) = .ok (.lst (ts2' ++ [.tup rs, .tup rs])) (h3 ++ [AO.lst rs]) := by
        let H := h3 ++ [AO.lst rs]
        have a1 : (aLst (aCons (aFn fnTuple (aCons (aVar 11) (aNil))) (aNil))) τ6 H = .ok (.loc H.length) (H ++ [AO.lst [.tup rs]]) := aLst_ok (xs := [.tup rs]) (aCons_ok (aFn_ok rfl (fnTuple_s (seqOf_loc (getLast_app _ _)))) rfl) (by simp)
        have a2 : (aOp fMul (aLst (aCons (aFn fnTuple (aCons (aVar 11) (aNil))) (aNil))) (aC (.int 2))) τ6 H = .ok (.loc (H ++ [AO.lst [.tup rs]]).length) (H ++ [AO.lst [.tup rs]] ++ [AO.lst [.tup rs, .tup rs]]) := by
          refine aOp_ok a1 rfl ?_
          show (match lstOf (.loc H.length) (H ++ [AO.lst [.tup rs]]) with | some xs => _ | none => _) = _
          rw [lstOf_loc (getLast_app _ _)]
          exact if_pos ⟨by decide, by decide, size_ok (by simp)⟩
        have a3 : (aOp fAdd (aVar 4) (aOp fMul (aLst (aCons (aFn fnTuple (aCons (aVar 11) (aNil))) (aNil))) (aC (.int 2)))) τ6 H = .ok (.loc (H ++ [AO.lst [.tup rs]] ++ [AO.lst [.tup rs, .tup rs]]).length) (H ++ [AO.lst [.tup rs]] ++ [AO.lst [.tup rs, .tup rs]] ++ [AO.lst (ts2' ++ [.tup rs, .tup rs])]) := aOp_ok rfl a2 (fAdd_ll (getLast_app _ _) (by simp only [List.length_cons, List.length_nil]; omega))
        refine (aCut_ok a3).trans ?_
        have es : H ++ [AO.lst [.tup rs]] ++ [AO.lst [.tup rs, .tup rs]] ++ [AO.lst (ts2' ++ [.tup rs, .tup rs])] = H ++ [AO.lst [.tup rs], AO.lst [.tup rs, .tup rs], AO.lst (ts2' ++ [.tup rs, .tup rs])] := by simp
        have gl := getLast_app (H ++ [AO.lst [.tup rs]] ++ [AO.lst [.tup rs, .tup rs]]) (AO.lst (ts2' ++ [.tup rs, .tup rs]))
        rw [es] at gl ⊢
        exact finC_ext (frz_new (by simp) gl (gt_low ((gt.app gnew).app gtt) _))
      refine ⟨ts2' ++ [.tup rs, .tup rs], h3, [AO.lst rs], σ3 (some (.lst (ts2' ++ [.tup rs, .tup rs]))) (some (.int o)) (some (.loc h3.length)), (sIf_t ((tAnd_t c1).trans c2)).trans ?_, fun G => rfl, fun G => rfl, (gt.app gnew).app gtt, by simp [l2]; omega, by simp [l2]; omega, (m1.tr m2).tr m3⟩
      refine sSeq_ok q1 ?_
      refine sSeq_ok q2 ?_
      refine sSeq_ok q3 ?_
      refine sSeq_ok (σ1 := σ3 (some (.lst ts2')) none none) (h1 := h2) (sSet_ok q4) ?_
      refine sSeq_ok q5 ?_
      refine sSeq_ok q6 ?_
      refine sSeq_ok q7 ?_
      exact sSet_ok q8
    · rw [decide_eq_false (by omega)] at c2
      exact ⟨ts, h, [], σ0, by rw [List.append_nil]; exact (sIf_f ((tAnd_t c1).trans c2)).trans rfl, fun G => rfl, fun G => rfl, gt, Nat.le_refl _, by omega, t.rf⟩
  · rw [decide_eq_false (by omega)] at c1
    exact ⟨ts, h, [], σ0, by rw [List.append_nil]; exact (sIf_f (tAnd_f c1)).trans rfl, fun G => rfl, fun G => rfl, gt, Nat.le_refl _, by omega, t.rf⟩
end
section
variable {ns : List Str} {L : List (Str × Nat × Nat)} (N : Net ns L)
include N
theorem bent {h : AH} (t : Tp h) {A : List Nat} (TA : Tree ns.length L A) {R : List (Nat × Nat)} (hz : R.length ≤ 40) :
    ∃ (v : PV) (h' : AH), m__law_bent [.loc 2, netV ns L, .tup (A.map nI), .tup (R.map pairV)] h = .ok v h' ∧ GoodT v ∧ Mv h h' := by
  unfold m__law_bent b__law_bent
  have le := exL_len N TA
  let S := sgB (netV ns L) (.tup (A.map nI)) (.tup (R.map pairV))
  let ts := ts1 R ++ ts2 R
  have gt : AllG ts := AllG.app (ts1_good hz) (ts2_good hz)
  obtain ⟨ts', h1, g, σ', eI, v4, v0, gt', l1, l2, m1⟩ := bent_if (N := netV ns L) (a := .tup (A.map nI)) (R := R) (E := exL L A) hz le t gt (by simp [ts, ts1, ts2])
  have t1 := t.mv m1
  have lp : 0 < ts'.length := by
    have : ts.length = 10 := by simp [ts, ts1, ts2]
    omega
  obtain ⟨x, f, ex, x0, x1, m2⟩ := tip (t1.app g) (k := ts'.length) (by omega) (by omega)
  obtain ⟨h2, rfl, m3⟩ := t1.split m2
  obtain ⟨x, rfl⟩ : ∃ k : Nat, x = k := ⟨x.toNat, by omega⟩
  have xl : x < ts'.length := by omega
  have gv := gt' ts'[x] (List.getElem_mem xl)
  have mT := m1.tr m3
  refine ⟨ts'[x], h2, (mDef_rt (σ := σ') (h1 := h2 ++ g) (v := ts'[x]) ?_).trans (finC_mv t mT (frz_below (gv.2 _))), gv, mT⟩
  refine sSeq_ok (σ1 := S (some (.lst (ts1 R))) none none none none none none none) (h1 := h) (b4 hz h) ?_
  refine sSeq_ok (σ1 := S (some (.lst ts)) none none none none none none none) (h1 := h) (b5 hz h) ?_
  refine sSeq_ok (σ1 := S (some (.lst ts)) (some (.lst ((exL L A).map pairV))) none none none none none none) (h1 := h) (sSet_ok (aCall_ok rfl rfl (law_ex N TA h))) ?_
  refine sSeq_ok eI ?_
  refine sRet_ok (aOp_ok (v4 _) (aCall_ok (aCons_ok (v0 _) (aCons_ok (aFn_ok (aCons_ok (v4 _) rfl) (fnLen_seq (seqOf_lst _ _))) rfl)) rfl ex) ?_)
  exact fIx_lst (atI_nat (List.getElem?_eq_getElem xl))
end
end G20

namespace G20
open PySem PySem.Spec
open PyProof.Rows hiding St
open L2 AB MG
def sgE (N : PV) (A B : List Nat) (o4 o5 o6 o7 o8 o9 o10 : Option PV) : ASt := [some (.loc 2), some N, some (.tup (A.map nI)), some (.tup (B.map nI)), o4, o5, o6, o7, o8, o9, o10]
noncomputable abbrev bdE1 : AS := (sIf (tAnd (aB (aOp fIsN (aVar 9) (aC .non))) (tAnd (aB (aOp fIn (aVar 8) (aCall 4 m__law_way (aCons (aVar 1) (aCons (aVar 2) (aCons (aOp fIx (aOp fIx (aOp fIx (aVar 1) (aC (.int 1))) (aVar 10)) (aC (.int 1))) (aCons (aOp fIx (aOp fIx (aOp fIx (aVar 1) (aC (.int 1))) (aVar 10)) (aC (.int 2))) (aNil)))))))) (aB (aOp fIn (aVar 10) (aCall 4 m__law_way (aCons (aVar 1) (aCons (aVar 3) (aCons (aOp fIx (aOp fIx (aOp fIx (aVar 1) (aC (.int 1))) (aVar 8)) (aC (.int 1))) (aCons (aOp fIx (aOp fIx (aOp fIx (aVar 1) (aC (.int 1))) (aVar 8)) (aC (.int 2))) (aNil)))))))))) (sSet 9 (aVar 10)) (sNext))
noncomputable abbrev bdE2 : AS := (sSeq (sSet 9 (aC .non)) (sSeq (sFor (aItS (aFn fnSortLT (aCons (aLc (aItS (aVar 3)) [10] (gN 10) (aB (aOp fNin (aVar 10) (aVar 2))) (aVar 10)) (aNil)))) (gN 10) bdE1) (sIf (tOr (aB (aOp fIsN (aVar 9) (aC .non))) (tNot (aTr (aCall 2 m__law_same (aCons (aCall 4 m_even_exchange (aCons (aVar 1) (aCons (aVar 2) (aCons (aVar 3) (aCons (aVar 8) (aNil)))))) (aCons (aVar 9) (aNil))))))) (sRet (aC (.bl false))) (sNext))))
section
variable {ns : List Str} {L : List (Str × Nat × Nat)} (N : Net ns L)
include N
theorem in_way {A : List Nat} (TA : Tree ns.length L A) {m l : Nat} (hm : m < L.length) {σ : ASt} {iA im il : Nat} (h : AH) (h1 : aVar 1 σ h = .ok (netV ns L) h) (hA : aVar iA σ h = .ok (.tup (A.map nI)) h) (hi : aVar im σ h = .ok (nI m) h) (hl : aVar il σ h = .ok (nI l) h) :
    (aB (aOp fIn (aVar il) (aCall 4 m__law_way (aCons (aVar 1) (aCons (aVar iA) (aCons (aOp fIx (aOp fIx (aOp fIx (aVar 1) (aC (.int 1))) (aVar im)) (aC (.int 1))) (aCons (aOp fIx (aOp fIx (aOp fIx (aVar 1) (aC (.int 1))) (aVar im)) (aC (.int 2))) (aNil)))))))) σ h = .ok (decide (l ∈ onR L A m)) h := by
  obtain ⟨ea, eb⟩ := edg_lt N.lt hm
  have la := TA.len
  have l20 := N.l20
  have nk := net_k hm h
  obtain ⟨k1, k2⟩ := edg_at hm h
  obtain ⟨p, ep, w, nd⟩ := law_way N.lt N.n10 TA.lt (by omega) ea (TA.cn _ _ ea eb) h
  have pp : p.Perm (onR L A m) := w.perm TA.nd TA.fst nd
  have en : (aOp fIx (aOp fIx (aVar 1) (aC (.int 1))) (aVar im)) σ h = .ok (.tup [.str (L.getD m ("", 0, 0)).1, .int (edg L m).1, .int (edg L m).2]) h := aOp_ok (aOp_ok h1 rfl (net_1 _ _ _)) hi nk
  have e : decide (l ∈ onR L A m) = decide (l ∈ p) := decide_eq_decide.mpr pp.mem_iff.symm
  rw [e]
  exact aB_ok (aOp_ok hl (aCall_ok (aCons_ok h1 (aCons_ok hA (aCons_ok (aOp_ok en rfl k1) (aCons_ok (aOp_ok en rfl k2) rfl)))) rfl ep) (fIn_nn (seqOf_tup _ _)))
theorem even_in {A B : List Nat} (TA : Tree ns.length L A) (TB : Tree ns.length L B) {l : Nat} (hl : l ∈ A) (hn : l ∉ B) (o4 o5 o6 o7 o9 o10 : Option PV) (h : AH) :
    ∃ p9 p10 g, bdE2 (sgE (netV ns L) A B o4 o5 o6 o7 (some (nI l)) o9 o10) h = .fin .nx (sgE (netV ns L) A B o4 o5 o6 o7 (some (nI l)) p9 p10) (h ++ g) := by
  let S : Option PV → Option PV → ASt := fun o9 o10 => sgE (netV ns L) A B o4 o5 o6 o7 (some (nI l)) o9 o10
  have lb := TB.len
  have l20 := N.l20
  have kl := TA.lt l hl
  let W := dif B A
  have lW : W.length ≤ B.length := List.length_filter_le _ _
  have sW : srtN W = W := srtN_of (List.Perm.refl _) (TB.srt.filter _)
  have el := aLc_filter (m := aItS (aVar 3)) (a := itVals (B.map nI)) (vs := [10]) (g := gN 10) (t := aB (aOp fNin (aVar 10) (aVar 2))) (e := aVar 10) (σ := S (some .non) o10) (h := h) (h1 := h) (aItS_tup _ _ _ _ _ rfl) (B.map nI) (fun x => match x with | .int i => !decide (i.toNat ∈ A) | _ => false) (Nat.le_refl _) (by simp; omega) (fun _ _ _ => rfl) (fun x hx acc => by
    obtain ⟨k, _, rfl⟩ := List.mem_map.mp hx
    exact ⟨S (some .non) (some (nI k)), rfl, aB_ok (aOp_ok rfl rfl (fNin_nn (seqOf_tup _ _))), rfl⟩)
  rw [filt_nI (fun k => !decide (k ∈ A)) _ (fun k => rfl)] at el
  let g : AH := [AO.lst (W.map nI), AO.lst (W.map nI)]
  have es : (aFn fnSortLT (aCons (aLc (aItS (aVar 3)) [10] (gN 10) (aB (aOp fNin (aVar 10) (aVar 2))) (aVar 10)) (aNil))) (S (some .non) o10) h = .ok (.loc (h.length + 1)) (h ++ g) := by
    have q : fnSortLT [.loc h.length] (h ++ [AO.lst (W.map nI)]) = .ok (.loc (h ++ [AO.lst (W.map nI)]).length) (h ++ [AO.lst (W.map nI)] ++ [AO.lst ((srtN W).map nI)]) := fnSortLT_n (ks := W) (seqOf_loc (getLast_app _ _)) (by omega)
    rw [sW] at q
    refine (aFn_ok (aCons_ok (l := aNil) el rfl) q).trans ?_
    simp [g]
  let D : Nat → PV := fun i => (((W.take i).find? (evP L A B l)).map nI).getD .non
  have hW : (h ++ g)[h.length + 1]? = some (.lst (W.map nI)) := g1 rfl
  obtain ⟨σ', g', eF, p10, rfl, rfl⟩ := for_live (g := gN 10) (b := bdE1) (h.length + 1) (W.map nI)
    (fun i σ G => ∃ o10, σ = S (some (D i)) o10 ∧ G = h ++ g) (σ := S (some .non) o10) (h := h ++ g) ⟨o10, rfl, rfl⟩
    (fun i σ G ⟨o10, e1, e2⟩ => by rw [e2]; exact hW)
    (fun i x σ G ex ⟨o10, e1, e2⟩ => by
      subst e1; subst e2
      rw [List.getElem?_map] at ex
      obtain ⟨m, em, rfl⟩ := Option.map_eq_some_iff.mp ex
      have hm := mem_dif.mp (List.mem_of_getElem? em)
      have ml := TB.lt m hm.1
      have et : W.take (i + 1) = W.take i ++ [m] := by rw [List.take_succ, em]; rfl
      let τ := S (some (D i)) (some (nI m))
      have t2 := in_way N TA (m := m) (l := l) ml (σ := τ) (iA := 2) (im := 10) (il := 8) (h ++ g) rfl rfl rfl rfl
      have t3 := in_way N TB (m := l) (l := m) kl (σ := τ) (iA := 3) (im := 8) (il := 10) (h ++ g) rfl rfl rfl rfl
      have t1 : (aB (aOp fIsN (aVar 9) (aC .non))) τ (h ++ g) = .ok (((W.take i).find? (evP L A B l)).isNone) (h ++ g) := by
        show (aB (aOp fIsN (aVar 9) (aC .non))) (S (some ((((W.take i).find? (evP L A B l)).map nI).getD .non)) (some (nI m))) (h ++ g) = _
        cases (W.take i).find? (evP L A B l) with
        | none => exact aB_ok (aOp_ok rfl rfl rfl)
        | some z => exact aB_ok (aOp_ok rfl rfl rfl)
      have ec : (tAnd (aB (aOp fIsN (aVar 9) (aC .non))) (tAnd (aB (aOp fIn (aVar 8) (aCall 4 m__law_way (aCons (aVar 1) (aCons (aVar 2) (aCons (aOp fIx (aOp fIx (aOp fIx (aVar 1) (aC (.int 1))) (aVar 10)) (aC (.int 1))) (aCons (aOp fIx (aOp fIx (aOp fIx (aVar 1) (aC (.int 1))) (aVar 10)) (aC (.int 2))) (aNil)))))))) (aB (aOp fIn (aVar 10) (aCall 4 m__law_way (aCons (aVar 1) (aCons (aVar 3) (aCons (aOp fIx (aOp fIx (aOp fIx (aVar 1) (aC (.int 1))) (aVar 8)) (aC (.int 1))) (aCons (aOp fIx (aOp fIx (aOp fIx (aVar 1) (aC (.int 1))) (aVar 8)) (aC (.int 2))) (aNil)))))))))) τ (h ++ g) = .ok (((W.take i).find? (evP L A B l)).isNone && evP L A B l m) (h ++ g) := by
        cases d : ((W.take i).find? (evP L A B l)).isNone with
        | false => rw [d] at t1; exact tAnd_f t1
        | true =>
          rw [d] at t1
          rw [Bool.true_and]
          refine (tAnd_t t1).trans ?_
          unfold evP
          cases d2 : decide (l ∈ onR L A m) with
          | false => rw [d2] at t2; exact tAnd_f t2
          | true => rw [d2] at t2; rw [Bool.true_and]; exact (tAnd_t t2).trans t3
      cases d : (((W.take i).find? (evP L A B l)).isNone && evP L A B l m) with
      | true =>
        rw [d] at ec
        rw [Bool.and_eq_true] at d
        have e0 : (W.take i).find? (evP L A B l) = none := by simpa using d.1
        have : D (i + 1) = nI m := by
          show (((W.take (i + 1)).find? (evP L A B l)).map nI).getD .non = _
          rw [et, List.find?_append, e0, List.find?_cons, d.2]; rfl
        refine ⟨_, _, S (some (nI m)) (some (nI m)), h ++ g, rfl, (sIf_t ec).trans rfl, _, by rw [this], rfl⟩
      | false =>
        rw [d] at ec
        have : D (i + 1) = D i := by
          show (((W.take (i + 1)).find? (evP L A B l)).map nI).getD .non = (((W.take i).find? (evP L A B l)).map nI).getD .non
          rw [et, List.find?_append]
          cases c : (W.take i).find? (evP L A B l) with
          | some z => rfl
          | none =>
            rw [c] at d
            have : evP L A B l m = false := by simpa using d
            rw [List.find?_cons, this]; rfl
        refine ⟨_, _, τ, h ++ g, rfl, (sIf_f ec).trans rfl, _, by rw [this], rfl⟩)
  rw [List.length_map] at eF
  have eD : D W.length = ((evF L A B l).map nI).getD .non := by
    show (((W.take W.length).find? (evP L A B l)).map nI).getD .non = _
    rw [List.take_length]; rfl
  obtain ⟨m, hm⟩ := evF_some N TA TB hl hn
  rw [hm] at eD
  rw [eD] at eF
  have ev : m_even_exchange [netV ns L, .tup (A.map nI), .tup (B.map nI), nI l] (h ++ g) = .ok (nI m) (h ++ g) := by
    have := even_ex N TA TB hl hn (h ++ g)
    rw [hm] at this
    exact this
  let τ := S (some (nI m)) p10
  have ec : (tOr (aB (aOp fIsN (aVar 9) (aC .non))) (tNot (aTr (aCall 2 m__law_same (aCons (aCall 4 m_even_exchange (aCons (aVar 1) (aCons (aVar 2) (aCons (aVar 3) (aCons (aVar 8) (aNil)))))) (aCons (aVar 9) (aNil))))))) τ (h ++ g) = .ok false (h ++ g) :=
    (tOr_f (h1 := h ++ g) (aB_ok (aOp_ok rfl rfl rfl))).trans (tNot_ok (b := true) (aTr_ok (aCall_ok (aCons_ok (aCall_ok rfl rfl ev) (aCons_ok rfl rfl)) rfl (same rfl (by show 1 ≤ 10000; decide) _))))
  refine ⟨some (nI m), p10, g, ?_⟩
  refine sSeq_ok (σ1 := S (some .non) o10) (h1 := h) (sSet_ok rfl) ?_
  refine sSeq_ok (σ1 := τ) (h1 := h ++ g) ?_ ((sIf_f ec).trans rfl)
  refine sFor_ok (aItS_lc es hW) ?_
  show forA (itLive (.loc (h.length + 1)) (W.map nI).length) (gN 10) bdE1 (W.map nI).length 0 _ _ = _
  rw [List.length_map]
  exact eF
end
end G20

namespace G20
open PySem PySem.Spec
open PyProof.Rows hiding St
open L2 AB MG
noncomputable abbrev bdA6 : AS := (sSeq (sSet 7 (aCall 4 m__law_bent (aCons (aVar 0) (aCons (aVar 1) (aCons (aVar 2) (aCons (aVar 5) (aNil))))))) (sIf (tNot (aTr (aCall 2 m__law_same (aCons (aCallK 4 4 0 [3, 2, 1, 0] m_is_step_row aNil (aCons (aVar 7) (aCons (aVar 3) (aCons (aVar 2) (aCons (aVar 1) (aNil)))))) (aCons (aCall 4 m__law_leads (aCons (aVar 1) (aCons (aVar 2) (aCons (aVar 3) (aCons (aVar 7) (aNil)))))) (aNil)))))) (sRet (aC (.bl false))) (sNext)))
section
variable {ns : List Str} {L : List (Str × Nat × Nat)} (N : Net ns L)
include N
theorem judged {A B : List Nat} (TA : Tree ns.length L A) {v : PV} (gv : GoodT v) (h : AH) :
    ∃ b, m_is_step_row [netV ns L, .tup (A.map nI), .tup (B.map nI), v] h = .ok (.bl b) h ∧ m__law_leads [netV ns L, .tup (A.map nI), .tup (B.map nI), v] h = .ok (.bl b) h := by
  rcases gv.1 with ⟨xs, rfl, hz, hg⟩ | hv
  · exact ⟨_, is_step N TA hz hg h, leads N TA hz hg h⟩
  · exact ⟨_, is_step_no N hv h, leads_no N hv h⟩
theorem ask_bent {h : AH} (t : Tp h) {A B : List Nat} (TA : Tree ns.length L A) (TB : Tree ns.length L B) {R : List (Nat × Nat)} (hz : R.length ≤ 40) (o4 o6 o7 o8 o9 o10 : Option PV) :
    ∃ (v : PV) (h' : AH), bdA6 (sgE (netV ns L) A B o4 (some (.tup (R.map pairV))) o6 o7 o8 o9 o10) h = .fin .nx (sgE (netV ns L) A B o4 (some (.tup (R.map pairV))) o6 (some v) o8 o9 o10) h' ∧ Mv h h' := by
  obtain ⟨v, h1, ev, gv, m1⟩ := bent N t TA hz
  obtain ⟨b, e1, e2⟩ := judged N TA (B := B) gv h1
  refine ⟨v, h1, ?_, m1⟩
  refine sSeq_ok (σ1 := sgE (netV ns L) A B o4 (some (.tup (R.map pairV))) o6 (some v) o8 o9 o10) (h1 := h1) (sSet_ok (aCall_ok rfl rfl ev)) ?_
  refine (sIf_f (tNot_ok (b := true) (aTr_ok (aCall_ok (aCons_ok ?_ (aCons_ok (aCall_ok rfl rfl e2) rfl)) rfl (same rfl (sz_bl b) h1))))).trans rfl
  exact aCallK_ok (zs := [netV ns L, .tup (A.map nI), .tup (B.map nI), v]) rfl (aCons_ok rfl (aCons_ok rfl (aCons_ok rfl (aCons_ok rfl rfl)))) rfl rfl e1
theorem asked {h : AH} (t : Tp h) {A B : List Nat} (TA : Tree ns.length L A) (TB : Tree ns.length L B) :
    ∃ h' : AH, m__law_asked [.loc 2, netV ns L, .tup (A.map nI), .tup (B.map nI)] h = .ok (.bl true) h' ∧ Mv h h' := by
  unfold m__law_asked b__law_asked
  have la := TA.len
  have lb := TB.len
  have l20 := N.l20
  let W := dif A B
  have lW : W.length ≤ A.length := List.length_filter_le _ _
  let S : Option PV → Option PV → Option PV → Option PV → Option PV → Option PV → Option PV → ASt := sgE (netV ns L) A B
  let w : PV := .lst (W.map nI)
  -- (a)
  have el := aLc_filter (m := aItS (aVar 2)) (a := itVals (A.map nI)) (vs := [8]) (g := gN 8) (t := aB (aOp fNin (aVar 8) (aVar 3))) (e := aVar 8) (σ := S none none none none none none none) (h := h) (h1 := h) (aItS_tup _ _ _ _ _ rfl) (A.map nI) (fun x => match x with | .int i => !decide (i.toNat ∈ B) | _ => false) (Nat.le_refl _) (by simp; omega) (fun _ _ _ => rfl) (fun x hx acc => by
    obtain ⟨k, _, rfl⟩ := List.mem_map.mp hx
    exact ⟨S none none none none (some (nI k)) none none, rfl, aB_ok (aOp_ok rfl rfl (fNin_nn (seqOf_tup _ _))), rfl⟩)
  rw [filt_nI (fun k => !decide (k ∈ B)) _ (fun k => rfl)] at el
  have q1 : (aCut (aLc (aItS (aVar 2)) [8] (gN 8) (aB (aOp fNin (aVar 8) (aVar 3))) (aVar 8))) (S none none none none none none none) h = .ok w h :=
    (aCut_ok el).trans (finC_ext (frz_new (Nat.le_refl _) (getLast_app _ _) (low_nI _ _)))
  -- (b)
  have lenW : ∀ G, fnLen [w] G = .ok (.int W.length) G := fun G => by rw [fnLen_seq (seqOf_lst _ _), List.length_map]
  have f2 : m_fewest_steps [.tup (B.map nI), .tup (A.map nI)] h = .ok (.int W.length) h := by
    rw [fewest (by omega) h, dif_sym N TB TA]
  let σ4 := S (some w) none none none none none none
  have q2 : (tNot (aTr (aCall 2 m__law_same (aCons (aTup (aCons (aCall 2 m_fewest_steps (aCons (aVar 2) (aCons (aVar 3) (aNil)))) (aCons (aCallK 2 2 0 [1, 0] m_fewest_steps aNil (aCons (aVar 2) (aCons (aVar 3) (aNil)))) (aNil)))) (aCons (aTup (aCons (aFn fnLen (aCons (aVar 4) (aNil))) (aCons (aFn fnLen (aCons (aVar 4) (aNil))) (aNil)))) (aNil)))))) σ4 h = .ok false h := by
    let p : PV := .tup [.int W.length, .int W.length]
    have a1 : (aTup (aCons (aCall 2 m_fewest_steps (aCons (aVar 2) (aCons (aVar 3) (aNil)))) (aCons (aCallK 2 2 0 [1, 0] m_fewest_steps aNil (aCons (aVar 2) (aCons (aVar 3) (aNil)))) (aNil)))) σ4 h = .ok p h :=
      aTup_ok (aCons_ok (aCall_ok rfl rfl (fewest (by omega) h)) (aCons_ok (aCallK_ok (zs := [.tup (B.map nI), .tup (A.map nI)]) rfl (aCons_ok rfl (aCons_ok rfl rfl)) rfl rfl f2) rfl)) (by simp)
    have a2 : (aTup (aCons (aFn fnLen (aCons (aVar 4) (aNil))) (aCons (aFn fnLen (aCons (aVar 4) (aNil))) (aNil)))) σ4 h = .ok p h :=
      aTup_ok (aCons_ok (aFn_ok rfl (lenW _)) (aCons_ok (aFn_ok rfl (lenW _)) rfl)) (by simp)
    exact tNot_ok (b := true) (aTr_ok (aCall_ok (aCons_ok a1 (aCons_ok a2 rfl)) rfl (same rfl (by show 5 ≤ 10000; decide) h)))
  -- (c)
  obtain ⟨R0, er0, ld0, ln0⟩ := step_row N TA TB h
  have pz : ∀ {R : List (Nat × Nat)}, R.length = W.length → (R.map pairV).length ≤ 100 := fun e => by rw [List.length_map]; omega
  have pgd : ∀ (R : List (Nat × Nat)), ∀ x ∈ R.map pairV, ∀ h, Good x h := fun R x hx => (pg_map pg_pair R x hx).1
  have lead : ∀ {R : List (Nat × Nat)}, Ld L A R B → R.length = W.length → (decide ((R.map pairV).length = (dif A B).length) && ldP L B A (R.map pairV)) = true := fun d e => by
    rw [Ld_ldP d, Bool.and_true, List.length_map]; exact decide_eq_true e
  have e3 : m__law_leads [netV ns L, .tup (A.map nI), .tup (B.map nI), .tup (R0.map pairV)] h = .ok (.bl true) h := by
    rw [leads N TA (pz ln0) (pgd R0) h, lead ld0 ln0]
  -- (d)
  obtain ⟨R, h1, er, ld, ln, m1⟩ := law_row N t TA TB
  have t1 := t.mv m1
  have lR : R.length ≤ A.length := by rw [ln]; exact lW
  have e5 : m_is_step_row [netV ns L, .tup (A.map nI), .tup (B.map nI), .tup (R.map pairV)] h1 = .ok (.bl true) h1 := by
    rw [is_step N TA (pz ln) (pgd R) h1, lead ld ln]
  let r : PV := .tup (R.map pairV)
  let σ5 := S (some w) (some r) none none none none none
  -- (f)
  obtain ⟨σ6, h2, eF, o6, o7, rfl, m2⟩ := for_rg (g := gN 6) (b := bdA6) 0 6 (fun i σ G => ∃ o6 o7, σ = S (some w) (some r) o6 o7 none none none ∧ Mv h1 G) (σ := σ5) (h := h1) ⟨none, none, rfl, t1.rf⟩
    (fun i σ G _ ⟨o6, o7, e1, mG⟩ => by
      subst e1
      obtain ⟨v, G', eb, mB⟩ := ask_bent N (t1.mv mG) TA TB (R := R) (by omega) (some w) (some (.int (0 + (i : Nat)))) o7 none none none
      exact ⟨_, _, _, G', rfl, eb, _, _, rfl, mG.tr mB⟩)
  have t2 := t1.mv m2
  -- (g)
  obtain ⟨aw, ea, ean, eax⟩ := aItS_lst (aVar 4) (S (some w) (some r) o6 o7 none none none) h2 h2 (W.map nI) rfl
  obtain ⟨σ7, h3, eG, o8, o9, o10, g, rfl, rfl⟩ := for_seq (g := gN 8) (b := bdE2) (a := aw) (W.map nI) (fun i σ G => ∃ o8 o9 o10 g, σ = S (some w) (some r) o6 o7 o8 o9 o10 ∧ G = h2 ++ g) ean eax (σ := S (some w) (some r) o6 o7 none none none) (h := h2) ⟨none, none, none, [], rfl, (List.append_nil _).symm⟩
    (fun i x σ G ex ⟨o8, o9, o10, g, e1, e2⟩ => by
      subst e1; subst e2
      rw [List.getElem?_map] at ex
      obtain ⟨l, el, rfl⟩ := Option.map_eq_some_iff.mp ex
      have hm := mem_dif.mp (List.mem_of_getElem? el)
      obtain ⟨p9, p10, g', eb⟩ := even_in N TA TB hm.1 hm.2 (some w) (some r) o6 o7 o9 o10 (h2 ++ g)
      exact ⟨_, _, _, _, rfl, eb, _, p9, p10, g ++ g', rfl, by rw [List.append_assoc]⟩)
  have mT := m1.tr m2
  refine ⟨h2, (mDef_rt (σ := S (some w) (some r) o6 o7 o8 o9 o10) (h1 := h2 ++ g) (v := .bl true) ?_).trans (finC_mv t mT rfl), mT⟩
  refine sSeq_ok (σ1 := σ4) (h1 := h) (sSet_ok q1) ?_
  refine sSeq_ok (σ1 := σ4) (h1 := h) ((sIf_f q2).trans rfl) ?_
  refine sSeq_ok (σ1 := σ4) (h1 := h) ((sIf_f (tNot_ok (b := true) (aTr_ok (aCall_ok (aCons_ok rfl (aCons_ok rfl (aCons_ok rfl (aCons_ok (aCall_ok rfl rfl er0) rfl)))) rfl e3)))).trans rfl) ?_
  refine sSeq_ok (σ1 := σ5) (h1 := h1) (sSet_ok (aCall_ok rfl rfl er)) ?_
  refine sSeq_ok (σ1 := σ5) (h1 := h1) ((sIf_f (tNot_ok (b := true) (aTr_ok (aCall_ok (aCons_ok (aCall_ok rfl rfl e5) (aCons_ok rfl rfl)) rfl (same rfl (by decide) h1))))).trans rfl) ?_
  refine sSeq_ok (sFor_ok (aItR1_ok rfl (by decide) (by decide)) eF) ?_
  refine sSeq_ok (sFor_ok ea eG) ?_
  exact sRet_ok rfl
end
end G20

namespace G20
open PySem PySem.Spec
open PyProof.Rows hiding St
open L2 AB MG
theorem aCut_mv {m : AE} {σ : ASt} {h h1 g : AH} {v : PV} (t : Tp h) (mv : Mv h h1) (e : m σ h = .ok v (h1 ++ g)) (hv : v.low h.length = true) : aCut m σ h = .ok v h1 :=
  (aCut_ok e).trans (finC_mv t mv (frz_below hv))
theorem drawn {h : AH} (t : Tp h) {n more : Nat} (hn : 2 ≤ n) (hn2 : n ≤ 10) (hm : n + more ≤ 21) :
    ∃ h' : AH, m__law_drawn [.loc 2, .int n, .int more] h = .ok (.bl true) h' ∧ Mv h h' := by
  unfold m__law_drawn b__law_drawn
  obtain ⟨ns, L, h1, e1, N, m1⟩ := net t hn hn2 hm
  have n10 := N.n10
  have l20 := N.l20
  let nv := netV ns L
  let S : Option PV → Option PV → Option PV → Option PV → ASt := fun o3 o4 o5 o6 => [some (.loc 2), some (.int n), some (.int more), o3, o4, o5, o6]
  have t1 := t.mv m1
  have eln : ∀ g, fnLen [.tup (L.map lineV)] g = .ok (.int L.length) g := fun g => lenT (by simp) g
  -- one
  obtain ⟨A, h2, e2, m2, TA⟩ := grown (J := [AO.lst []]) t1 N (wv := .loc h1.length) (ws := []) (fun _ hk => absurd hk (by simp)) (by simp) (fun h' g e => seqOf_loc (by rw [List.append_assoc]; rw [← e]; simp))
  have t2 := t1.mv m2
  have la := TA.len
  have q2 : (aCut (aCall 3 m__law_grown (aCons (aVar 0) (aCons (aVar 3) (aCons (aLst (aNil)) (aNil)))))) (S (some nv) none none none) h1 = .ok (.tup (A.map nI)) h2 :=
    aCut_mv t1 m2 (aCall_ok (aCons_ok rfl (aCons_ok rfl (aCons_ok (aLst_ok (xs := []) rfl (by simp)) rfl))) rfl e2) (low_nI _ _)
  let σ4 := S (some nv) (some (.tup (A.map nI))) none none
  -- other
  obtain ⟨r, h3, e3, r0, r1, m3⟩ := tip t2 (k := 3) (by omega) (by omega)
  have t3 := t2.mv m3
  have ec : (aB (aOp fGt (aCall 2 m__law_tip (aCons (aVar 0) (aCons (aC (.int 3)) (aNil)))) (aC (.int 0)))) σ4 h2 = .ok (decide ((0 : Int) < r)) h3 := aB_ok (aOp_ok (aCall_ok rfl rfl e3) rfl (fGt_i _ _ _))
  obtain ⟨B, h4, g, e4, m4, TB⟩ : ∃ (B : List Nat) (h4 g : AH), (aIf (aB (aOp fGt (aCall 2 m__law_tip (aCons (aVar 0) (aCons (aC (.int 3)) (aNil)))) (aC (.int 0)))) (aCall 3 m__law_grown (aCons (aVar 0) (aCons (aVar 3) (aCons (aCall 2 m__law_mixed (aCons (aVar 0) (aCons (aLc (aItR1 (aCons (aFn fnLen (aCons (aOp fIx (aVar 3) (aC (.int 1))) (aNil))) (aNil))) [6] (gN 6) (aB (aOp fNin (aVar 6) (aVar 4))) (aVar 6)) (aNil)))) (aNil))))) (aCall 3 m__law_grown (aCons (aVar 0) (aCons (aVar 3) (aCons (aSl (aVar 4) (aSoP (aC (.int 1))) (aNoP)) (aNil)))))) σ4 h2 = .ok (.tup (B.map nI)) (h4 ++ g) ∧ Mv h2 h4 ∧ Tree ns.length L B := by
    by_cases c : (0 : Int) < r
    · rw [decide_eq_true c] at ec
      let W := (List.range L.length).filter fun k => !decide (k ∈ A)
      have lW : W.length ≤ L.length := by
        have := List.length_filter_le (fun k => !decide (k ∈ A)) (List.range L.length)
        rw [List.length_range] at this; exact this
      have el : (aLc (aItR1 (aCons (aFn fnLen (aCons (aOp fIx (aVar 3) (aC (.int 1))) (aNil))) (aNil))) [6] (gN 6) (aB (aOp fNin (aVar 6) (aVar 4))) (aVar 6)) σ4 h3 = .ok (.loc h3.length) (h3 ++ [AO.lst (W.map nI)]) := by
        have ei : (aItR1 (aCons (aFn fnLen (aCons (aOp fIx (aVar 3) (aC (.int 1))) (aNil))) (aNil))) σ4 h3 = .ok (itRg 0 L.length) h3 :=
          aItR1_ok (j := (L.length : Nat)) (aCons_ok (l := aNil) (aFn_ok (aCons_ok (l := aNil) (aOp_ok (x := netV ns L) rfl rfl (net_1 _ _ _)) rfl) (eln _)) rfl) (by omega) (by omega)
        have q := aLc_filter (vs := [6]) (g := gN 6) (t := aB (aOp fNin (aVar 6) (aVar 4))) (e := aVar 6) ei ((List.range L.length).map nI) (fun x => match x with | .int i => !decide (i.toNat ∈ A) | _ => false) (by simp [itRg]) (by simp; omega) (fun i acc _ => itRg_nxt _ _ _) (fun x hx acc => by
          obtain ⟨k, _, rfl⟩ := List.mem_map.mp hx
          exact ⟨S (some nv) (some (.tup (A.map nI))) none (some (nI k)), rfl, aB_ok (aOp_ok rfl rfl (fNin_nn (seqOf_tup _ _))), rfl⟩)
        rw [filt_nI (fun k => !decide (k ∈ A)) _ (fun k => rfl)] at q
        exact q
      obtain ⟨ys, f1, ey, py, m5⟩ := mixed (t3.app [AO.lst (W.map nI)]) (v := .loc h3.length) (xs := W.map nI) (seqOf_loc (getLast_app _ _)) (by simp; omega) (low_nI _ _)
      obtain ⟨h5, rfl, m6⟩ := t3.split m5
      have t5 := t3.mv m6
      obtain ⟨row, rfl, prow⟩ := perm_inv (f := nI) (g := fun x => match x with | .int k => k.toNat | _ => 0) (fun x => rfl) py
      have lrow : row.length = W.length := prow.length_eq
      obtain ⟨B, h6, e6, m7, TB⟩ := grown (J := [AO.lst (W.map nI)]) t5 N (wv := .lst (row.map nI)) (ws := row) (fun k hk => by
        have := (List.mem_filter.mp (prow.mem_iff.mp hk)).1
        exact List.mem_range.mp this) (by omega) (fun h' g e => seqOf_lst _ _)
      refine ⟨B, h6, [AO.lst (W.map nI)], (aIf_t ec).trans ?_, (m3.tr m6).tr m7, TB⟩
      exact aCall_ok (aCons_ok rfl (aCons_ok rfl (aCons_ok (aCall_ok (aCons_ok rfl (aCons_ok el rfl)) rfl ey) rfl))) rfl e6
    · rw [decide_eq_false c] at ec
      obtain ⟨B, h6, e6, m7, TB⟩ := grown (J := []) t3 N (wv := .tup ((cutP A (some 1) none).map nI)) (ws := cutP A (some 1) none) (fun k hk => TA.lt k (cutP_mem hk)) (by have := cutP_len A (some 1) none; omega) (fun h' g e => seqOf_tup _ _)
      rw [List.append_nil, List.append_nil] at e6
      refine ⟨B, h6, [], (aIf_f ec).trans ?_, m3.tr m7, TB⟩
      rw [List.append_nil]
      refine aCall_ok (aCons_ok rfl (aCons_ok rfl (aCons_ok (x := .tup ((cutP A (some 1) none).map nI)) (h1 := h3) ?_ rfl))) rfl e6
      show Res.ok (PV.tup (cutP (A.map nI) (some 1) none)) h3 = _
      rw [cutP_map]
  have t4 := t2.mv m4
  let σ5 := S (some nv) (some (.tup (A.map nI))) (some (.tup (B.map nI))) none
  obtain ⟨h5, e5, m5⟩ := asked N t4 TA TB
  have mT := ((m1.tr m2).tr m4).tr m5
  refine ⟨h5, (mDef_rt (σ := σ5) (h1 := h5) (v := .bl true) ?_).trans (finC_mv0 t mT rfl), mT⟩
  refine sSeq_ok (σ1 := S (some nv) none none none) (h1 := h1) (sSet_ok (aCall_ok rfl rfl e1)) ?_
  refine sSeq_ok (σ1 := σ4) (h1 := h2) (sSet_ok q2) ?_
  refine sSeq_ok (σ1 := σ5) (h1 := h4) (sSet_ok (aCut_mv t2 m4 e4 (low_nI _ _))) ?_
  exact sRet_ok (aCall_ok rfl rfl e5)
end G20

namespace G20
open PySem PySem.Spec
open PyProof.Rows hiding St
open L2 AB MG
/-! all lines on five places -/
def kA (i : Nat) : List (Nat × Nat) := (List.range (4 - i)).map fun j => (i, i + 1 + j)
def kR (i : Nat) : List (Nat × Nat) := (List.range i).flatMap kA
theorem kR_succ (i : Nat) : kR (i + 1) = kR i ++ kA i := by unfold kR; rw [List.range_succ, List.flatMap_append]; simp
def od (a b : Nat) : Nat × Nat := (if b < a then b else a, if a < b then b else a)
theorem k_mem {a b : Nat} (ha : a < 5) (hb : b < 5) (n : a ≠ b) : od a b ∈ kR 5 := by
  have key : ∀ a : Fin 5, ∀ b : Fin 5, a ≠ b → od a.val b.val ∈ kR 5 := by decide
  exact key ⟨a, ha⟩ ⟨b, hb⟩ (fun c => n (Fin.ext_iff.mp c))
theorem k_lt : ∀ e ∈ kR 5, e.1 < 5 ∧ e.2 < 5 := by decide
theorem k_len : (kR 5).length = 10 := by decide
theorem find_ix {α : Type} [DecidableEq α] (d : α) : ∀ (E : List α) (e : α), e ∈ E → ∃ j, j < E.length ∧ E.getD j d = e ∧ E.findIdx? (fun x => decide (x = e)) = some j
  | [], e, h => by cases h
  | x :: E, e, h => by
    by_cases c : x = e
    · exact ⟨0, by simp, by simp [c], by simp [List.findIdx?_cons, c]⟩
    · have : e ∈ E := by
        rcases List.mem_cons.mp h with h | h
        · exact absurd h.symm c
        · exact h
      obtain ⟨j, a, b, q⟩ := find_ix d E e this
      refine ⟨j + 1, by simp; omega, by simpa using b, ?_⟩
      rw [List.findIdx?_cons, decide_eq_false c, q]; rfl
theorem index_pairs {E : List (Nat × Nat)} {e : Nat × Nat} (he : e ∈ E) : ∃ j, j < E.length ∧ E.getD j (0, 0) = e ∧ ∀ h, mIndexD (.lst (E.map pairV)) [pairV e] h = .ok (nI j) h := by
  obtain ⟨j, a, b, q⟩ := find_ix (0, 0) E e he
  refine ⟨j, a, b, fun h => ?_⟩
  unfold mIndexD
  have e1 : dat (pairV e) = some (.tuple [.int e.1, .int e.2]) := rfl
  have s1 : SeqAt.shaped (.tuple [.int e.1, .int e.2]) = true := by unfold SeqAt.shaped; simp [PyData.canLay0, PyData.canLayAll0, PyData.depth, PyData.depthAll]
  simp only [lstOf_lst, Option.bind_some, dats_pairs, e1]
  rw [if_pos ⟨(shp_pairs E).1, s1⟩, List.findIdx?_map]
  have fe : ((fun z => PyData.eqv z (.tuple [.int e.1, .int e.2])) ∘ fun e : Nat × Nat => PyData.tuple [.int e.1, .int e.2]) = fun x => decide (x = e) := funext fun x => by
    show PyData.eqv (.tuple [.int x.1, .int x.2]) (.tuple [.int e.1, .int e.2]) = _
    rw [Bool.eq_iff_iff, decide_eq_true_iff, Prod.ext_iff]
    simp [PyData.eqv, PyData.eqvAll]; omega
  rw [fe, q]
/-! a way through all places is a tree -/
section
variable {e : Nat → Nat × Nat}
theorem add_nd {ks : List Nat} {k : Nat} (f : Fst e ks ∧ ks.Nodup) (h : ¬ Jn e ks (e k).1 (e k).2) : Fst e (ks ++ [k]) ∧ (ks ++ [k]).Nodup :=
  ⟨f.1.add h, List.nodup_append.mpr ⟨f.2, by simp, fun x hx y hy c => by
    rw [List.mem_singleton] at hy; subst hy; subst c; exact h (Jn.line hx)⟩⟩
theorem od_jn {ks : List Nat} {k a b : Nat} (hk : k ∈ ks) (ek : e k = od a b) : Jn e ks a b := by
  have q : Jn e ks (e k).1 (e k).2 := Jn.line hk
  rw [ek] at q
  unfold od at q
  by_cases c : b < a
  · rw [if_pos c, if_neg (by omega)] at q; exact q.sm
  · by_cases d : a < b
    · rw [if_neg c, if_pos d] at q; exact q
    · have : a = b := by omega
      subst this; exact Jn.rf _
theorem od_new {ks : List Nat} {k a b : Nat} (ek : e k = od a b) (ab : a ≠ b) (h : ∀ j ∈ ks, (e j).1 ≠ b ∧ (e j).2 ≠ b) : ¬ Jn e ks (e k).1 (e k).2 := fun c => by
  have c' : Jn e ks a b := by
    rw [ek] at c
    unfold od at c
    by_cases d : b < a
    · rw [if_pos d, if_neg (by omega)] at c; exact c.sm
    · rw [if_neg d, if_pos (by omega)] at c; exact c
  have := Cn.agree (fun x => decide (x = b)) (fun x hx => by
    obtain ⟨j, hj, rfl⟩ := List.mem_map.mp hx
    obtain ⟨p, q⟩ := h j hj
    show decide ((e j).1 = b) = decide ((e j).2 = b)
    rw [decide_eq_false p, decide_eq_false q]) c'
  simp [ab] at this
theorem od_ne {a b c : Nat} (h1 : a ≠ c) (h2 : b ≠ c) : (od a b).1 ≠ c ∧ (od a b).2 ≠ c := by
  unfold od
  constructor <;> (dsimp only; split <;> assumption)
theorem way_tree {p : List Nat} (pm : p.Perm [0, 1, 2, 3, 4]) (kx : Nat → Nat) (ek : ∀ i, i < 4 → e (kx i) = od (p.getD i 0) (p.getD (i + 1) 0)) :
    (Fst e ((List.range 4).map kx) ∧ ((List.range 4).map kx).Nodup) ∧ ∀ a b, a < 5 → b < 5 → Jn e ((List.range 4).map kx) a b := by
  have lp := pm.length_eq
  match p, lp, pm, ek with
  | [a, b, c, d, f], _, pm, ek =>
    have nd : [a, b, c, d, f].Nodup := pm.nodup_iff.mpr (by decide)
    simp only [List.nodup_cons, List.mem_cons, List.not_mem_nil, or_false, not_or] at nd
    obtain ⟨⟨ab, ac, ad, af⟩, ⟨bc, bd, bf⟩, ⟨cd, cf⟩, df, _⟩ := nd
    have e0 : e (kx 0) = od a b := ek 0 (by omega)
    have e1 : e (kx 1) = od b c := ek 1 (by omega)
    have e2 : e (kx 2) = od c d := ek 2 (by omega)
    have e3 : e (kx 3) = od d f := ek 3 (by omega)
    have f0 : Fst e [kx 0] ∧ [kx 0].Nodup := by
      have q := add_nd (ks := []) (k := kx 0) ⟨Fst.nil, List.nodup_nil⟩ (od_new e0 ab (fun _ h => by cases h))
      exact q
    have f1 : Fst e [kx 0, kx 1] ∧ [kx 0, kx 1].Nodup := add_nd f0 (od_new e1 bc (fun j hj => by
      rw [List.mem_singleton] at hj; subst hj; rw [e0]; exact od_ne ac bc))
    have f2 : Fst e [kx 0, kx 1, kx 2] ∧ [kx 0, kx 1, kx 2].Nodup := add_nd f1 (od_new e2 cd (fun j hj => by
      simp only [List.mem_cons, List.not_mem_nil, or_false] at hj
      rcases hj with rfl | rfl
      · rw [e0]; exact od_ne ad bd
      · rw [e1]; exact od_ne bd cd))
    have f3 : Fst e [kx 0, kx 1, kx 2, kx 3] ∧ [kx 0, kx 1, kx 2, kx 3].Nodup := add_nd f2 (od_new e3 df (fun j hj => by
      simp only [List.mem_cons, List.not_mem_nil, or_false] at hj
      rcases hj with rfl | rfl | rfl
      · rw [e0]; exact od_ne af bf
      · rw [e1]; exact od_ne bf cf
      · rw [e2]; exact od_ne cf df))
    refine ⟨f3, fun x y hx hy => ?_⟩
    show Jn e [kx 0, kx 1, kx 2, kx 3] x y
    have j0 : Jn e [kx 0, kx 1, kx 2, kx 3] a b := od_jn (by simp) e0
    have j1 : Jn e [kx 0, kx 1, kx 2, kx 3] a c := j0.tr (od_jn (by simp) e1)
    have j2 : Jn e [kx 0, kx 1, kx 2, kx 3] a d := j1.tr (od_jn (by simp) e2)
    have j3 : Jn e [kx 0, kx 1, kx 2, kx 3] a f := j2.tr (od_jn (by simp) e3)
    have all : ∀ x, x < 5 → Jn e [kx 0, kx 1, kx 2, kx 3] a x := fun x hx => by
      have : x ∈ [0, 1, 2, 3, 4] := by
        have : x = 0 ∨ x = 1 ∨ x = 2 ∨ x = 3 ∨ x = 4 := by omega
        rcases this with rfl | rfl | rfl | rfl | rfl <;> decide
      have := pm.mem_iff.mpr this
      simp only [List.mem_cons, List.not_mem_nil, or_false] at this
      rcases this with rfl | rfl | rfl | rfl | rfl
      · exact Jn.rf _
      · exact j0
      · exact j1
      · exact j2
      · exact j3
    exact (all x hx).sm.tr (all y hy)
end
/-- the net of all lines -/
def kN : List Str := ["a", "b", "c", "d", "e"]
def kL (E : List (Nat × Nat)) : List (Str × Nat × Nat) := (List.range 10).map fun k : Nat => ("l" ++ (toString (k : Int) : Str), E.getD k (0, 0))
section
variable {E : List (Nat × Nat)} (hE : E.Perm (kR 5))
include hE
theorem kE_len : E.length = 10 := by rw [hE.length_eq]; exact k_len
theorem kL_snd : (kL E).map (·.2) = E := by
  show ((List.range 10).map _).map _ = E
  rw [List.map_map]
  have := getD_range E (0, 0)
  rw [kE_len hE] at this
  exact this
theorem kL_edg {k : Nat} (hk : k < 10) : edg (kL E) k = E.getD k (0, 0) := by
  have : E.getD k (0, 0) = ((kL E).map (·.2)).getD k (0, 0) := by rw [kL_snd hE]
  rw [this]
  have l : k < (kL E).length := by simp [kL]; exact hk
  unfold edg
  simp [List.getD_eq_getElem?_getD, l]
theorem kNet : Net kN (kL E) := ⟨by decide, fun l hl => by
    have : l.2 ∈ E := by rw [← kL_snd hE]; exact List.mem_map_of_mem hl
    exact k_lt _ (hE.mem_iff.mp this), fun p hp => by
    rw [kL_snd hE]
    have hp : p < 5 := hp
    by_cases c : p = 0
    · subst c; exact Cn.rf 0
    · have : od 0 p ∈ E := hE.mem_iff.mpr (k_mem (by omega) hp (by omega))
      have e : od 0 p = (0, p) := by unfold od; rw [if_neg (by omega), if_pos (by omega)]
      rw [e] at this
      exact .fw (.rf 0) this, by decide, by simp [kL]⟩
theorem kWay {p : List Nat} (pm : p.Perm [0, 1, 2, 3, 4]) : ∃ kx : Nat → Nat, (∀ i, i < 4 → ∀ h, mIndexD (.lst (E.map pairV)) [pairV (od (p.getD i 0) (p.getD (i + 1) 0))] h = .ok (nI (kx i)) h) ∧ Tree 5 (kL E) (srtN ((List.range 4).map kx)) := by
  have lp : p.length = 5 := pm.length_eq
  have nd : p.Nodup := pm.nodup_iff.mpr (by decide)
  have lt : ∀ i, i < 5 → p.getD i 0 < 5 := fun i hi => by
    have : p.getD i 0 ∈ p := by rw [List.getD_eq_getElem?_getD, List.getElem?_eq_getElem (by omega)]; exact List.getElem_mem _
    have := pm.mem_iff.mp this
    simp only [List.mem_cons, List.not_mem_nil, or_false] at this
    omega
  have ne : ∀ i, i < 4 → p.getD i 0 ≠ p.getD (i + 1) 0 := fun i hi c => by
    rw [List.getD_eq_getElem?_getD, List.getD_eq_getElem?_getD, List.getElem?_eq_getElem (by omega), List.getElem?_eq_getElem (by omega)] at c
    exact (List.pairwise_iff_getElem.mp nd) i (i + 1) (by omega) (by omega) (by omega) c
  have ex : ∀ i, ∃ j, i < 4 → j < E.length ∧ E.getD j (0, 0) = od (p.getD i 0) (p.getD (i + 1) 0) ∧ ∀ h, mIndexD (.lst (E.map pairV)) [pairV (od (p.getD i 0) (p.getD (i + 1) 0))] h = .ok (nI j) h := fun i => by
    by_cases c : i < 4
    · obtain ⟨j, a⟩ := index_pairs (E := E) (hE.mem_iff.mpr (k_mem (lt i (by omega)) (lt (i + 1) (by omega)) (ne i c)))
      exact ⟨j, fun _ => a⟩
    · exact ⟨0, fun h => absurd h c⟩
  obtain ⟨kx, hk⟩ := Classical.axiomOfChoice ex
  have lE := kE_len hE
  obtain ⟨⟨a, b⟩, c⟩ := way_tree (e := edg (kL E)) pm kx (fun i hi => by
    obtain ⟨j1, j2, _⟩ := hk i hi
    rw [kL_edg hE (by omega), j2])
  have sp : (srtN ((List.range 4).map kx)).Perm ((List.range 4).map kx) := srtN_perm _
  refine ⟨kx, fun i hi => (hk i hi).2.2, ?_, srtN_le _, sp.nodup_iff.mpr b, a.perm sp, fun x y hx hy => (c x y hx hy).perm sp.symm⟩
  intro k hk'
  obtain ⟨i, hi, rfl⟩ := List.mem_map.mp (sp.mem_iff.mp hk')
  have := (hk i (List.mem_range.mp hi)).1
  simp [kL]; omega
end
end G20

namespace G20
open PySem PySem.Spec
open PyProof.Rows hiding St
open L2 AB MG
def sgP (o1 o2 o3 o4 o5 o6 o7 o8 : Option PV) : ASt := [some (.loc 2), o1, o2, o3, o4, o5, o6, o7, o8]
noncomputable abbrev bdP2 : AS := (sSet 1 (aCut (aOp fAdd (aVar 1) (aLc (aItR2 (aCons (aOp fAdd (aVar 2) (aC (.int 1))) (aCons (aC (.int 5)) (aNil)))) [6] (gN 6) (tYes') (aTup (aCons (aVar 2) (aCons (aVar 6) (aNil))))))))
noncomputable abbrev eP7 : AE := (aCut (aFn fnTuple (aCons (aFn fnSortLT (aCons (aLc (aItR1 (aCons (aC (.int 4)) (aNil))) [7] (gN 7) (tYes') (aM isL mIndexD (aVar 1) (aCons (aTup (aCons (aFn fnMin (aCons (aOp fIx (aVar 8) (aVar 7)) (aCons (aOp fIx (aVar 8) (aOp fAdd (aVar 7) (aC (.int 1)))) (aNil)))) (aCons (aFn fnMax (aCons (aOp fIx (aVar 8) (aVar 7)) (aCons (aOp fIx (aVar 8) (aOp fAdd (aVar 7) (aC (.int 1)))) (aNil)))) (aNil)))) (aNil)))) (aNil))) (aNil))))
theorem rows_in (i : Nat) (hi : i < 5) (o3 o4 o5 o6 o7 o8 : Option PV) (h : AH) :
    bdP2 (sgP (some (.lst ((kR i).map pairV))) (some (nI i)) o3 o4 o5 o6 o7 o8) h = .fin .nx (sgP (some (.lst ((kR (i + 1)).map pairV))) (some (nI i)) o3 o4 o5 o6 o7 o8) h := by
  let σ := sgP (some (.lst ((kR i).map pairV))) (some (nI i)) o3 o4 o5 o6 o7 o8
  have ei : (aItR2 (aCons (aOp fAdd (aVar 2) (aC (.int 1))) (aCons (aC (.int 5)) (aNil)))) σ h = .ok (itRg ((i : Int) + 1) (4 - i)) h := by
    have q := aItR2_ok (i := (i : Int) + 1) (j := 5) (l := (aCons (aOp fAdd (aVar 2) (aC (.int 1))) (aCons (aC (.int 5)) (aNil)))) (σ := σ) (h := h) (h1 := h) (aCons_ok (aOp_ok rfl rfl (fAdd_i _ _ _)) rfl) (by omega) (by omega) (by omega) (by omega)
    rw [show ((5 : Int) - ((i : Int) + 1)).toNat = 4 - i by omega] at q
    exact q
  have el : (aLc (aItR2 (aCons (aOp fAdd (aVar 2) (aC (.int 1))) (aCons (aC (.int 5)) (aNil)))) [6] (gN 6) (tYes') (aTup (aCons (aVar 2) (aCons (aVar 6) (aNil))))) σ h = .ok (.loc h.length) (h ++ [AO.lst ((kA i).map pairV)]) := by
    have q := aLc_map (vs := [6]) (g := gN 6) (t := tYes') (e := aTup (aCons (aVar 2) (aCons (aVar 6) (aNil)))) (σ := σ) ei ((List.range (4 - i)).map fun j : Nat => PV.int ((i : Int) + 1 + (j : Nat))) (fun x => .tup [.int i, x]) (by simp [itRg]) (by simp; omega) (fun j acc hj => by
      show (if j < 4 - i then some (some (PV.int ((i : Int) + 1 + j))) else some none) = _
      rw [List.length_map, List.length_range] at hj
      by_cases c : j < 4 - i
      · rw [if_pos c, List.getElem?_map, List.getElem?_range c]; rfl
      · rw [if_neg c, List.getElem?_eq_none (by simp; omega)]) (fun x hx acc => by
      obtain ⟨j, _, rfl⟩ := List.mem_map.mp hx
      exact ⟨sgP (some (.lst ((kR i).map pairV))) (some (nI i)) o3 o4 o5 (some (.int ((i : Int) + 1 + (j : Nat)))) o7 o8, rfl, rfl, aTup_ok (xs := [.int i, .int ((i : Int) + 1 + (j : Nat))]) rfl (by simp)⟩)
    rw [q]
    have : (((List.range (4 - i)).map fun j : Nat => PV.int ((i : Int) + 1 + (j : Nat))).map fun x => PV.tup [.int i, x]) = (kA i).map pairV := by
      rw [kA, List.map_map, List.map_map]
      refine List.map_congr_left fun j _ => ?_
      show PV.tup [.int i, .int ((i : Int) + 1 + (j : Nat))] = .tup [.int ((i : Nat) : Int), .int ((i + 1 + j : Nat) : Int)]
      rw [show ((i + 1 + j : Nat) : Int) = (i : Int) + 1 + (j : Nat) by omega]
    rw [this]
  refine sSet_ok ((aCut_ok (aOp_ok (x := .lst ((kR i).map pairV)) rfl el (fAdd_ll (getLast_app _ _) ?_))).trans ?_)
  · rw [List.length_map, List.length_map]
    have key : ∀ i : Fin 5, (kR i.val).length + (kA i.val).length ≤ 1000 := by decide
    have := key ⟨i, hi⟩
    dsimp only at this
    omega
  · rw [List.append_assoc]
    refine finC_ext ?_
    rw [← List.map_append, ← kR_succ, ← List.append_assoc]
    exact frz_new (by simp) (getLast_app _ _) (low_pairs _ _)
section
variable {E : List (Nat × Nat)} (hE : E.Perm (kR 5))
include hE
theorem way_val {p : List Nat} (pm : p.Perm [0, 1, 2, 3, 4]) {wv : PV} (wx : ∀ i, i < 5 → ∀ h, fIx wv (nI i) h = .ok (nI (p.getD i 0)) h) :
    ∃ A, Tree 5 (kL E) A ∧ ∀ (o2 o3 o4 o5 o6 o7 : Option PV) (h : AH), eP7 (sgP (some (.lst (E.map pairV))) o2 o3 o4 o5 o6 o7 (some wv)) h = .ok (.tup (A.map nI)) h := by
  obtain ⟨kx, hk, T⟩ := kWay hE pm
  refine ⟨_, T, fun o2 o3 o4 o5 o6 o7 h => ?_⟩
  let σ := sgP (some (.lst (E.map pairV))) o2 o3 o4 o5 o6 o7 (some wv)
  have el := aLc_map (m := aItR1 (aCons (aC (.int 4)) (aNil))) (a := itRg 0 4) (vs := [7]) (g := gN 7) (t := tYes') (e := (aM isL mIndexD (aVar 1) (aCons (aTup (aCons (aFn fnMin (aCons (aOp fIx (aVar 8) (aVar 7)) (aCons (aOp fIx (aVar 8) (aOp fAdd (aVar 7) (aC (.int 1)))) (aNil)))) (aCons (aFn fnMax (aCons (aOp fIx (aVar 8) (aVar 7)) (aCons (aOp fIx (aVar 8) (aOp fAdd (aVar 7) (aC (.int 1)))) (aNil)))) (aNil)))) (aNil)))) (σ := σ) (h := h) (h1 := h) (aItR1_ok (j := 4) rfl (by decide) (by decide)) ((List.range 4).map nI) (fun x => match x with | .int i => nI (kx i.toNat) | x => x) (by simp [itRg]) (by simp) (fun i acc _ => itRg_nxt _ _ _) (fun x hx acc => by
    obtain ⟨i, hi, rfl⟩ := List.mem_map.mp hx
    have il : i < 4 := List.mem_range.mp hi
    let τ := sgP (some (.lst (E.map pairV))) o2 o3 o4 o5 o6 (some (nI i)) (some wv)
    let G : AH := h ++ [AO.lst acc]
    refine ⟨τ, rfl, rfl, ?_⟩
    have x1 : (aOp fIx (aVar 8) (aVar 7)) τ G = .ok (nI (p.getD i 0)) G := aOp_ok rfl rfl (wx i (by omega) _)
    have x0 : (aOp fAdd (aVar 7) (aC (.int 1))) τ G = .ok (nI (i + 1)) G := (aOp_ok (x := .int i) (y := .int 1) rfl rfl (fAdd_i _ _ _)).trans (by rfl)
    have x2 : (aOp fIx (aVar 8) (aOp fAdd (aVar 7) (aC (.int 1)))) τ G = .ok (nI (p.getD (i + 1) 0)) G := aOp_ok rfl x0 (wx (i + 1) (by omega) _)
    let a := p.getD i 0
    let b := p.getD (i + 1) 0
    have y1 : fnMin [nI a, nI b] G = .ok (nI (od a b).1) G := by
      show Res.ok (PV.int (if (b : Int) < a then (b : Int) else a)) G = .ok (.int ((if b < a then b else a : Nat) : Int)) G
      by_cases c : b < a
      · rw [if_pos c, if_pos (by omega)]
      · rw [if_neg c, if_neg (by omega)]
    have y2 : fnMax [nI a, nI b] G = .ok (nI (od a b).2) G := by
      show Res.ok (PV.int (if (b : Int) > a then (b : Int) else a)) G = .ok (.int ((if a < b then b else a : Nat) : Int)) G
      by_cases c : a < b
      · rw [if_pos c, if_pos (by omega)]
      · rw [if_neg c, if_neg (by omega)]
    exact aM_ok (x := .lst (E.map pairV)) rfl rfl (aCons_ok (aTup_ok (xs := [nI (od a b).1, nI (od a b).2]) (aCons_ok (aFn_ok (aCons_ok x1 (aCons_ok x2 rfl)) y1) (aCons_ok (aFn_ok (aCons_ok x1 (aCons_ok x2 rfl)) y2) rfl)) (by simp)) rfl) (hk i il G))
  have em : ((List.range 4).map nI).map (fun x => match x with | .int i => nI (kx i.toNat) | x => x) = ((List.range 4).map kx).map nI := by rw [List.map_map, List.map_map]; rfl
  rw [em] at el
  let W := (List.range 4).map kx
  have es := aFn_ok (aCons_ok (l := aNil) el rfl) (fnSortLT_n (ks := W) (seqOf_loc (getLast_app _ _)) (by simp [W]))
  have et := aFn_ok (aCons_ok (l := aNil) es rfl) (fnTuple_s (seqOf_loc (getLast_app _ _)))
  refine (aCut_ok et).trans ?_
  rw [List.append_assoc]
  exact finC_ext (frz_below (low_nI _ _))
end
end G20

namespace G20
open PySem PySem.Spec
open PyProof.Rows hiding St
open L2 AB MG
noncomputable abbrev eP3 : AE := (aCut (aTup (aCons (aTup (aCons (aC (.str "a")) (aCons (aC (.str "b")) (aCons (aC (.str "c")) (aCons (aC (.str "d")) (aCons (aC (.str "e")) (aNil))))))) (aCons (aFn fnTuple (aCons (aLc (aItR1 (aCons (aC (.int 10)) (aNil))) [7] (gN 7) (tYes') (aOp fAdd (aTup (aCons (aOp fAdd (aC (.str "l")) (aFn fnStr (aCons (aVar 7) (aNil)))) (aNil))) (aOp fIx (aVar 1) (aVar 7)))) (aNil))) (aNil)))))
noncomputable abbrev eP5 : AE := (aCut (aTup (aCons (aVar 4) (aCons (aStT (aTup (aCons (aOp fIx (aVar 4) (aC (.int 3))) (aCons (aOp fIx (aVar 4) (aC (.int 1))) (aCons (aOp fIx (aVar 4) (aC (.int 4))) (aCons (aOp fIx (aVar 4) (aC (.int 2))) (aCons (aOp fIx (aVar 4) (aC (.int 0))) (aNil))))))) (aOp fIx (aTup (aCons (aC (.int 1)) (aCons (aOp fSub (aC (.int 0)) (aC (.int 1))) (aNil)))) (aCall 2 m__law_tip (aCons (aVar 0) (aCons (aC (.int 2)) (aNil)))))) (aNil)))))
theorem str_len {k : Nat} (hk : k < 10) : (toString (k : Int) : Str).length ≤ 100 := by
  have : k = 0 ∨ k = 1 ∨ k = 2 ∨ k = 3 ∨ k = 4 ∨ k = 5 ∨ k = 6 ∨ k = 7 ∨ k = 8 ∨ k = 9 := by omega
  rcases this with rfl | rfl | rfl | rfl | rfl | rfl | rfl | rfl | rfl | rfl <;> decide
section
variable {E : List (Nat × Nat)} (hE : E.Perm (kR 5))
include hE
theorem net_k5 (o2 o4 o5 o6 o7 o8 : Option PV) (h : AH) : eP3 (sgP (some (.lst (E.map pairV))) o2 none o4 o5 o6 o7 o8) h = .ok (netV kN (kL E)) h := by
  let σ := sgP (some (.lst (E.map pairV))) o2 none o4 o5 o6 o7 o8
  have lE := kE_len hE
  have el := aLc_map (m := aItR1 (aCons (aC (.int 10)) (aNil))) (a := itRg 0 10) (vs := [7]) (g := gN 7) (t := tYes') (e := (aOp fAdd (aTup (aCons (aOp fAdd (aC (.str "l")) (aFn fnStr (aCons (aVar 7) (aNil)))) (aNil))) (aOp fIx (aVar 1) (aVar 7)))) (σ := σ) (h := h) (h1 := h) (aItR1_ok (j := 10) rfl (by decide) (by decide)) ((List.range 10).map nI) (fun x => match x with | .int i => lineV ("l" ++ (toString (i.toNat : Int) : Str), E.getD i.toNat (0, 0)) | x => x) (by simp [itRg]) (by simp) (fun i acc _ => itRg_nxt _ _ _) (fun x hx acc => by
    obtain ⟨k, hk, rfl⟩ := List.mem_map.mp hx
    have kl : k < 10 := List.mem_range.mp hk
    have i2 : ∀ g, fIx (.lst (E.map pairV)) (nI k) g = .ok (pairV (E.getD k (0, 0))) g := fun g => fIx_lst (atI_nat (by rw [List.getElem?_map, List.getElem?_eq_getElem (by omega), List.getD_eq_getElem?_getD, List.getElem?_eq_getElem (by omega)]; rfl))
    have sl := str_len kl
    exact ⟨sgP (some (.lst (E.map pairV))) o2 none o4 o5 o6 (some (nI k)) o8, rfl, rfl, aOp_ok (aTup_ok (aCons_ok (aOp_ok rfl (aFn_ok rfl (fnStr_n (by omega) _)) (fAdd_s (by have : ("l" : Str).length = 1 := rfl; omega))) rfl) (by simp)) (aOp_ok rfl rfl (i2 _)) (fAdd_t (by simp))⟩)
  have em : ((List.range 10).map nI).map (fun x => match x with | .int i => lineV ("l" ++ (toString (i.toNat : Int) : Str), E.getD i.toNat (0, 0)) | x => x) = (kL E).map lineV := by
    unfold kL
    rw [List.map_map, List.map_map]; rfl
  rw [em] at el
  have et := aFn_ok (aCons_ok (l := aNil) el rfl) (fnTuple_s (seqOf_loc (getLast_app _ _)))
  have e := aTup_ok (aCons_ok (aTup_ok (l := (aCons (aC (.str "a")) (aCons (aC (.str "b")) (aCons (aC (.str "c")) (aCons (aC (.str "d")) (aCons (aC (.str "e")) (aNil))))))) (σ := σ) (h := h) (h1 := h) (xs := kN.map .str) rfl (by decide)) (aCons_ok (l := aNil) et rfl)) (by simp)
  exact (aCut_ok e).trans (finC_ext (frz_below (low_net _ _ _)))
end
def w2 (p : List Nat) : List Nat := [3, 1, 4, 2, 0].map fun i => p.getD i 0
theorem w2_perm {p : List Nat} (pm : p.Perm [0, 1, 2, 3, 4]) : (w2 p).Perm [0, 1, 2, 3, 4] := by
  have e : [0, 1, 2, 3, 4].map (fun i => p.getD i 0) = p := by
    have := getD_range p 0
    rw [pm.length_eq] at this; exact this
  have q : (w2 p).Perm ([0, 1, 2, 3, 4].map fun i => p.getD i 0) := List.Perm.map _ (by decide)
  rw [e] at q
  exact q.trans pm
theorem get_nI {q : List Nat} (lq : q.length = 5) (i : Nat) (hi : i < 5) : (q.map nI)[i]? = some (nI (q.getD i 0)) := by
  rw [List.getElem?_map, List.getElem?_eq_getElem (by omega), List.getD_eq_getElem?_getD, List.getElem?_eq_getElem (by omega)]; rfl
theorem ways_in {h : AH} (t : Tp h) {p : List Nat} (pm : p.Perm [0, 1, 2, 3, 4]) (o1 o2 o3 o6 o7 o8 : Option PV) :
    ∃ (q : List Nat) (h' : AH), q.Perm [0, 1, 2, 3, 4] ∧ eP5 (sgP o1 o2 o3 (some (.lst (p.map nI))) none o6 o7 o8) h = .ok (.tup [.lst (p.map nI), .tup (q.map nI)]) h' ∧ Mv h h' := by
  let σ := sgP o1 o2 o3 (some (.lst (p.map nI))) none o6 o7 o8
  have lp : p.length = 5 := pm.length_eq
  obtain ⟨r, h1, e1, r0, r1, m1⟩ := tip t (k := 2) (by omega) (by omega)
  have ix : ∀ i, i < 5 → ∀ (G : AH), fIx (.lst (p.map nI)) (nI i) G = .ok (nI (p.getD i 0)) G := fun i hi G => fIx_lst (atI_nat (get_nI lp i hi))
  have et : (aTup (aCons (aOp fIx (aVar 4) (aC (.int 3))) (aCons (aOp fIx (aVar 4) (aC (.int 1))) (aCons (aOp fIx (aVar 4) (aC (.int 4))) (aCons (aOp fIx (aVar 4) (aC (.int 2))) (aCons (aOp fIx (aVar 4) (aC (.int 0))) (aNil))))))) σ h = .ok (.tup ((w2 p).map nI)) h :=
    aTup_ok (xs := (w2 p).map nI) (aCons_ok (aOp_ok rfl rfl (ix 3 (by omega) _)) (aCons_ok (aOp_ok rfl rfl (ix 1 (by omega) _)) (aCons_ok (aOp_ok rfl rfl (ix 4 (by omega) _)) (aCons_ok (aOp_ok rfl rfl (ix 2 (by omega) _)) (aCons_ok (aOp_ok rfl rfl (ix 0 (by omega) _)) rfl))))) (by simp [w2])
  have e2 : (aTup (aCons (aC (.int 1)) (aCons (aOp fSub (aC (.int 0)) (aC (.int 1))) (aNil)))) σ h = .ok (.tup [.int 1, .int (-1)]) h := aTup_ok rfl (by simp)
  obtain ⟨q, pq, es⟩ : ∃ q : List Nat, q.Perm [0, 1, 2, 3, 4] ∧ (aStT (aTup (aCons (aOp fIx (aVar 4) (aC (.int 3))) (aCons (aOp fIx (aVar 4) (aC (.int 1))) (aCons (aOp fIx (aVar 4) (aC (.int 4))) (aCons (aOp fIx (aVar 4) (aC (.int 2))) (aCons (aOp fIx (aVar 4) (aC (.int 0))) (aNil))))))) (aOp fIx (aTup (aCons (aC (.int 1)) (aCons (aOp fSub (aC (.int 0)) (aC (.int 1))) (aNil)))) (aCall 2 m__law_tip (aCons (aVar 0) (aCons (aC (.int 2)) (aNil)))))) σ h = .ok (.tup (q.map nI)) h1 := by
    have : r = 0 ∨ r = 1 := by omega
    rcases this with rfl | rfl
    · refine ⟨w2 p, w2_perm pm, ?_⟩
      have e3 : (aOp fIx (aTup (aCons (aC (.int 1)) (aCons (aOp fSub (aC (.int 0)) (aC (.int 1))) (aNil)))) (aCall 2 m__law_tip (aCons (aVar 0) (aCons (aC (.int 2)) (aNil))))) σ h = .ok (.int 1) h1 := aOp_ok e2 (aCall_ok rfl rfl e1) rfl
      unfold aStT
      rw [et, Res.bind_ok]
      dsimp only
      rw [e3, Res.bind_ok]
      rfl
    · refine ⟨(w2 p).reverse, (List.reverse_perm _).trans (w2_perm pm), ?_⟩
      have e3 : (aOp fIx (aTup (aCons (aC (.int 1)) (aCons (aOp fSub (aC (.int 0)) (aC (.int 1))) (aNil)))) (aCall 2 m__law_tip (aCons (aVar 0) (aCons (aC (.int 2)) (aNil))))) σ h = .ok (.int (-1)) h1 := aOp_ok e2 (aCall_ok rfl rfl e1) rfl
      unfold aStT
      rw [et, Res.bind_ok]
      dsimp only
      rw [e3, Res.bind_ok, List.map_reverse]
      rfl
  refine ⟨q, h1, pq, ?_, m1⟩
  have e := aTup_ok (aCons_ok (show aVar 4 σ h = .ok (.lst (p.map nI)) h from rfl) (aCons_ok (l := aNil) es rfl)) (by simp)
  refine (aCut_ok e).trans (finC_mv0 t m1 ?_)
  have a := low_nI h.length p
  have b := low_nI h.length q
  show PV.lows h.length [.lst (p.map nI), .tup (q.map nI)] = true
  refine low_all fun x hx => ?_
  simp only [List.mem_cons, List.not_mem_nil, or_false] at hx
  rcases hx with rfl | rfl
  · exact a
  · exact b
theorem paths {h : AH} (t : Tp h) : ∃ h' : AH, m__law_paths [.loc 2] h = .ok (.bl true) h' ∧ Mv h h' := by
  unfold m__law_paths b__law_paths
  have q1 : (sSet 1 (aCut (aLst (aNil)))) (sgP none none none none none none none none) h = .fin .nx (sgP (some (.lst [])) none none none none none none none) h :=
    sSet_ok ((aCut_ok (aLst_ok (xs := []) rfl (by simp))).trans (finC_ext (frz_new (Nat.le_refl _) (getLast_app _ _) rfl)))
  obtain ⟨σ2, h2, eF, o2, rfl, rfl⟩ := for_rg (g := gN 2) (b := bdP2) 0 5 (fun i σ G => ∃ o2, σ = sgP (some (.lst ((kR i).map pairV))) o2 none none none none none none ∧ G = h) (σ := sgP (some (.lst [])) none none none none none none none) (h := h) ⟨none, rfl, rfl⟩
    (fun i σ G hi ⟨o2, e1, e2⟩ => by
      subst e1; subst e2
      have hz : ((0 : Int) + (i : Nat)) = (i : Nat) := by omega
      rw [hz]
      exact ⟨sgP (some (.lst ((kR i).map pairV))) (some (nI i)) none none none none none none, G, _, _, rfl, rows_in i hi none none none none none none G, _, rfl, rfl⟩)
  obtain ⟨ys, h3, ey, py, m3⟩ := mixed t (v := .lst ((kR 5).map pairV)) (seqOf_lst _ _) (by decide) (low_pairs _ _)
  have t3 := t.mv m3
  obtain ⟨E, rfl, hE⟩ := perm_inv (f := pairV) (g := unP) unP_pair py
  have N := kNet hE
  let N5 : PV := netV kN (kL E)
  let S := sgP (some (.lst (E.map pairV)))
  have q3 := net_k5 hE o2 none none none none none h3
  -- row
  have eR : (aLstRg1 (aC (.int 5))) (S o2 (some N5) none none none none none) h3 = .ok (.loc h3.length) (h3 ++ [AO.lst ((List.range 5).map nI)]) := aLstRg1_ok (n := 5) rfl (by omega)
  obtain ⟨zs, f4, ez, pz, m4⟩ := mixed (t3.app [AO.lst ((List.range 5).map nI)]) (v := .loc h3.length) (xs := (List.range 5).map nI) (seqOf_loc (getLast_app _ _)) (by simp) (low_nI _ _)
  obtain ⟨h4, rfl, m4'⟩ := t3.split m4
  have t4 := t3.mv m4'
  obtain ⟨p, rfl, pm⟩ := perm_inv (f := nI) (g := fun x => match x with | .int k => k.toNat | _ => 0) (fun x => rfl) pz
  have pm : p.Perm [0, 1, 2, 3, 4] := pm
  have q4 : (aCut (aCall 2 m__law_mixed (aCons (aVar 0) (aCons (aLstRg1 (aC (.int 5))) (aNil))))) (S o2 (some N5) none none none none none) h3 = .ok (.lst (p.map nI)) h4 :=
    aCut_mv t3 m4' (aCall_ok (aCons_ok rfl (aCons_ok eR rfl)) rfl ez) (low_nI _ _)
  obtain ⟨q, h5, qm, q5, m5⟩ := ways_in t4 pm (some (.lst (E.map pairV))) o2 (some N5) none none none
  have t5 := t4.mv m5
  obtain ⟨A, TA, eA⟩ := way_val hE pm (wv := .lst (p.map nI)) (fun i hi G => fIx_lst (atI_nat (get_nI pm.length_eq i hi)))
  obtain ⟨B, TB, eB⟩ := way_val hE qm (wv := .tup (q.map nI)) (fun i hi G => fIx_tup (atI_nat (get_nI qm.length_eq i hi)))
  let W : PV := .tup [.lst (p.map nI), .tup (q.map nI)]
  let σ5 := S o2 (some N5) (some (.lst (p.map nI))) (some W) none none none
  have el := aLc_map (m := aItS (aVar 5)) (a := itVals [.lst (p.map nI), .tup (q.map nI)]) (vs := [8]) (g := gN 8) (t := tYes') (e := eP7) (σ := σ5) (h := h5) (h1 := h5) (aItS_tup _ _ _ _ _ rfl) [.lst (p.map nI), .tup (q.map nI)] (fun x => match x with | .lst _ => .tup (A.map nI) | _ => .tup (B.map nI)) (Nat.le_refl _) (by simp) (fun _ _ _ => rfl) (fun x hx acc => by
    simp only [List.mem_cons, List.not_mem_nil, or_false] at hx
    rcases hx with rfl | rfl
    · exact ⟨_, rfl, rfl, eA o2 (some N5) (some (.lst (p.map nI))) (some W) none none _⟩
    · exact ⟨_, rfl, rfl, eB o2 (some N5) (some (.lst (p.map nI))) (some W) none none _⟩)
  let σ7 := S (some (.tup (A.map nI))) (some N5) (some (.lst (p.map nI))) (some W) (some (.tup (B.map nI))) none none
  have q7 : (sAsg (aCut (aLc (aItS (aVar 5)) [8] (gN 8) (tYes') eP7)) (gTupL 2 (gCons' (gN 2) (gCons' (gN 6) (gNil'))))) σ5 h5 = .fin .nx σ7 h5 := by
    refine sAsg_ok (v := .lst [.tup (A.map nI), .tup (B.map nI)]) (h1 := h5) ((aCut_ok el).trans (finC_ext (frz_new (Nat.le_refl _) (getLast_app _ _) ?_))) rfl
    refine low_all fun x hx => ?_
    simp only [List.map_cons, List.map_nil, List.mem_cons, List.not_mem_nil, or_false] at hx
    rcases hx with rfl | rfl
    · exact low_nI _ _
    · exact low_nI _ _
  obtain ⟨h6, e6, m6⟩ := asked N t5 TA TB
  have t6 := t5.mv m6
  obtain ⟨h7, e7, m7⟩ := asked N t6 TB TA
  have mT := (((m3.tr m4').tr m5).tr m6).tr m7
  refine ⟨h7, (mDef_rt (σ := σ7) (h1 := h7) (v := .bl true) ?_).trans (finC_mv0 t mT rfl), mT⟩
  refine sSeq_ok q1 ?_
  refine sSeq_ok (sFor_ok (aItR1_ok (j := 5) rfl (by decide) (by decide)) eF) ?_
  refine sSeq_ok (σ1 := S o2 none none none none none none) (h1 := h3) (sSet_ok (aCall_ok rfl rfl ey)) ?_
  refine sSeq_ok (σ1 := S o2 (some N5) none none none none none) (h1 := h3) (sSet_ok q3) ?_
  refine sSeq_ok (σ1 := S o2 (some N5) (some (.lst (p.map nI))) none none none none) (h1 := h4) (sSet_ok q4) ?_
  refine sSeq_ok (σ1 := σ5) (h1 := h5) (sSet_ok q5) ?_
  refine sSeq_ok q7 ?_
  exact sRet_ok ((aAnd_t (aCall_ok rfl rfl e6)).trans (aCall_ok rfl rfl e7))
end G20

namespace G20
open PySem PySem.Spec
open PyProof.Rows hiding St
open L2 AB MG
theorem fShl_1 (h : AH) : fShl (.int 1) (.int 2000) h = .ok (.int (1 * 2 ^ (2000 : Int).toNat)) h := by
  have q : bPow 1 2000 = true := by simp only [bPow, Bool.and_eq_true, decide_eq_true_eq]; exact ⟨⟨by omega, by omega⟩, by decide⟩
  exact if_pos (e := (Res.stuck : Res PV)) q
theorem fPow_10 (h : AH) : fPow (.int 10) (.int 18) h = .ok (.int (10 ^ (18 : Int).toNat)) h := by
  have q : bPow 10 18 = true := by simp only [bPow, Bool.and_eq_true, decide_eq_true_eq]; exact ⟨⟨by omega, by omega⟩, by decide⟩
  exact if_pos (e := (Res.stuck : Res PV)) q
abbrev bdX : AS := (sSeq (sSet 4 (aOp fMod (aFn fnAbs (aCons (aFn fnInt (aCons (aVar 3) (aNil))) (aNil))) (aOp fShl (aC (.int 1)) (aC (.int 2000))))) (sSeq (sSet 2 (aOp fMod (aFn fnInt (aCons (aOp fAdd (aOp fAdd (aOp fMul (aVar 2) (aC (.int 46301))) (aOp fMod (aVar 4) (aC (.int 2147479967)))) (aC (.int 139))) (aNil))) (aC (.int 4294966997)))) (sIf (aB (aOp fGe (aVar 4) (aOp fPow (aC (.int 10)) (aC (.int 18))))) (sExpr (aM isL mAppend (aVar 1) (aCons (aVar 4) (aNil)))) (sNext))))
theorem crock (ns : List Int) : ∃ h', m__law_crock [.ro (ns.map PV.int)] [] = .ok (.loc 2) h' ∧ Tp h' := by
  unfold m__law_crock b__law_crock
  let a : PV := .ro (ns.map PV.int)
  let ms : List Int := cutP ns none (some 60)
  let sl : List PV := ms.map .int
  have lm : ms.length ≤ 60 := by
    show (cutP ns none (some 60)).length ≤ 60
    unfold cutP
    rw [List.length_take]
    have : HT.sIx ns.length ns.length (some 60) ≤ 60 := by
      rw [show (some (60 : Int)) = some ((60 : Nat) : Int) from rfl, HT.sIx_nat]; omega
    omega
  let S : Int → Option PV → Option PV → ASt := fun m o3 o4 => [some a, some (.loc 0), some (.int m), o3, o4]
  have e1 : aItS (aSl (aVar 0) (aNoP) (aSoP (aC (.int 60)))) (S 200009 none none) [.lst []] = .ok (itLive (.loc 1) sl.length) [AO.lst [], .lst sl] := by
    have e : (aSl (aVar 0) (aNoP) (aSoP (aC (.int 60)))) (S 200009 none none) [AO.lst []] = .ok (.loc 1) [AO.lst [], .lst sl] := by
      show Res.ok (PV.loc 1) ([AO.lst []] ++ [AO.lst (cutP (ns.map PV.int) none (some 60))]) = _
      rw [cutP_map]; rfl
    exact aItS_loc e rfl
  obtain ⟨σ', g, eF, m, o3, o4, nums, rfl, rfl, ln⟩ := for_live (g := gN 3) (b := bdX) 1 sl
    (fun i σ g => ∃ (m : Int) (o3 o4 : Option PV) (nums : List Int), σ = S m o3 o4 ∧ g = [AO.lst (nums.map .int), .lst sl] ∧ nums.length ≤ i) (σ := S 200009 none none) (h := [AO.lst [], .lst sl]) ⟨200009, none, none, [], rfl, rfl, by simp⟩
    (fun i σ g ⟨_, _, _, nums, _, e, _⟩ => by rw [e]; rfl)
    (fun i x σ g ex ⟨m, o3, o4, nums, e1, e2, ln⟩ => by
      subst e1; subst e2
      have il : i < 60 := by have := (List.getElem?_eq_some_iff.mp ex).1; simp [sl] at this; omega
      obtain ⟨c, rfl⟩ : ∃ c : Int, x = .int c := by
        obtain ⟨c, _, e⟩ := List.mem_map.mp (List.mem_of_getElem? ex); exact ⟨c, e.symm⟩
      let g : AH := [AO.lst (nums.map .int), .lst sl]
      let s : Int := (if c < 0 then -c else c) % (1 * 2 ^ (2000 : Int).toNat)
      have es : fMod (.int (if c < 0 then -c else c)) (.int (1 * 2 ^ (2000 : Int).toNat)) g = .ok (.int s) g := fMod_i (by rw [Int.one_mul]; exact Int.pow_pos (by omega)) _
      have e4 : (sSet 4 (aOp fMod (aFn fnAbs (aCons (aFn fnInt (aCons (aVar 3) (aNil))) (aNil))) (aOp fShl (aC (.int 1)) (aC (.int 2000))))) (S m (some (.int c)) o4) g = .fin .nx (S m (some (.int c)) (some (.int s))) g :=
        sSet_ok (aOp_ok (aFn_ok (aCons_ok (aFn_ok rfl (fnInt_i _ _)) rfl) (show fnAbs [.int c] g = .ok (.int (if c < 0 then -c else c)) g from rfl)) (aOp_ok rfl rfl (fShl_1 _)) es)
      clear_value s
      let m2 : Int := (m * 46301 + s % 2147479967 + 139) % 4294966997
      have e5 : (sSet 2 (aOp fMod (aFn fnInt (aCons (aOp fAdd (aOp fAdd (aOp fMul (aVar 2) (aC (.int 46301))) (aOp fMod (aVar 4) (aC (.int 2147479967)))) (aC (.int 139))) (aNil))) (aC (.int 4294966997)))) (S m (some (.int c)) (some (.int s))) g = .fin .nx (S m2 (some (.int c)) (some (.int s))) g :=
        sSet_ok (aOp_ok (aFn_ok (aCons_ok (aOp_ok (aOp_ok (aOp_ok rfl rfl (fMul_i (by omega) (by omega) _)) (aOp_ok rfl rfl (fMod_i (by omega) _)) (fAdd_i _ _ _)) rfl (fAdd_i _ _ _)) rfl) (fnInt_i _ _)) rfl (fMod_i (by omega) _))
      have ec : (aB (aOp fGe (aVar 4) (aOp fPow (aC (.int 10)) (aC (.int 18))))) (S m2 (some (.int c)) (some (.int s))) g = .ok (decide ((10 ^ (18 : Int).toNat : Int) ≤ s)) g := aB_ok (aOp_ok rfl (aOp_ok rfl rfl (fPow_10 _)) (fGe_i _ _ _))
      obtain ⟨nums', l', e6⟩ : ∃ nums' : List Int, nums'.length ≤ i + 1 ∧ (sIf (aB (aOp fGe (aVar 4) (aOp fPow (aC (.int 10)) (aC (.int 18))))) (sExpr (aM isL mAppend (aVar 1) (aCons (aVar 4) (aNil)))) (sNext)) (S m2 (some (.int c)) (some (.int s))) g = .fin .nx (S m2 (some (.int c)) (some (.int s))) [AO.lst (nums'.map .int), .lst sl] := by
        by_cases d : (10 ^ (18 : Int).toNat : Int) ≤ s
        · rw [decide_eq_true d] at ec
          refine ⟨nums ++ [s], by simp; omega, (sIf_t ec).trans ?_⟩
          have ap : mAppend (.loc 0) [.int s] g = .ok .non [AO.lst ((nums ++ [s]).map .int), .lst sl] := by
            rw [mAppend_ok (n := 0) (xs := nums.map .int) rfl (by simp; omega), List.map_append]; rfl
          exact sExpr_ok (v := .non) (aM_ok rfl rfl rfl ap)
        · rw [decide_eq_false d] at ec
          exact ⟨nums, by omega, (sIf_f ec).trans rfl⟩
      refine ⟨_, _, _, _, rfl, by { refine sSeq_ok e4 ?_; refine sSeq_ok e5 ?_; exact e6 }, m2, _, _, nums', rfl, rfl, l'⟩)
  have lsl : sl.length ≤ 60 := by simp [sl]; exact lm
  refine ⟨[.lst (nums.map .int), .lst sl, .lst [.loc 0, .int m, .int 0]], ?_, nums, .lst sl, m, 0, rfl, low_ints _ _, by omega⟩
  refine mDefK_rt (σ := S m o3 o4) ?_
  refine sSeq_ok (σ1 := [some a, some (.loc 0), none, none, none]) (h1 := [AO.lst []]) (sSet_ok (aLst_ok (h1 := ([] : AH)) (xs := []) rfl (by simp))) ?_
  refine sSeq_ok (σ1 := S 200009 none none) (h1 := [AO.lst []]) (sSet_ok rfl) ?_
  refine sSeq_ok (sFor_ok e1 eF) ?_
  exact sRet_ok (aLst_ok (h1 := [AO.lst (nums.map PV.int), AO.lst sl]) (xs := [.loc 0, .int m, .int 0]) rfl (by simp))
theorem tCut_mv {m : AT} {σ : ASt} {h h1 g : AH} {b : Bool} (mv : Mv h h1) (e : m σ h = .ok b (h1 ++ g)) : tCut m σ h = .ok b h1 := by
  unfold tCut
  rw [e]
  dsimp only
  have l := mv.len
  rw [if_pos (cutB_of fun n hn => ?_)]
  · rw [← l, List.take_left]
  · rw [List.getElem?_append_left (by omega)]
    exact mv.low n hn
theorem Cn_homes {n : Nat} {E : List (Nat × Nat)} (lt : ∀ e ∈ E, e.1 < n ∧ e.2 < n) {a b : Nat} (ha : a < n) (hb : b < n) : Cn E a b ↔ (homesF n E).getD a 0 = (homesF n E).getD b 0 := by
  have inv := homesF_inv (n := n) lt
  exact ⟨fun c => c.agree (fun a => (homesF n E).getD a 0) inv.one, fun e => inv.two a b ha hb e⟩
def jnC (n : Nat) (L : List (Str × Nat × Nat)) (js : List Nat) (a b : Nat) : Bool := decide ((homesF n (js.map (edg L))).getD a 0 = (homesF n (js.map (edg L))).getD b 0)
def swpC (ks : List Nat) (c o : Nat) : List Nat := srtI (wo ks o ++ [c])
def exC (n : Nat) (L : List (Str × Nat × Nat)) (ks : List Nat) : List (Nat × Nat) := (List.range L.length).flatMap fun k => if k ∈ ks then [] else (ks.filter fun j => !jnC n L (wo ks j) (edg L k).1 (edg L k).2).map fun j => (k, j)
section
variable {n : Nat} {L : List (Str × Nat × Nat)} (lt : LtN n L) (pos : 0 < n)
theorem swp_C (ks : List Nat) (c o : Nat) : swp ks c o = swpC ks c o := by unfold swp swpC; exact srtN_I _
include lt pos
theorem edg_all (k : Nat) : (edg L k).1 < n ∧ (edg L k).2 < n := by
  by_cases c : k < L.length
  · exact edg_lt lt c
  · unfold edg
    rw [List.getD_eq_getElem?_getD, List.getElem?_eq_none (by omega)]
    exact ⟨pos, pos⟩
theorem jn_C (js : List Nat) {a b : Nat} (ha : a < n) (hb : b < n) : Jn (edg L) js a b ↔ jnC n L js a b = true := by
  unfold jnC
  rw [decide_eq_true_iff]
  exact Cn_homes (fun e he => by
    obtain ⟨k, _, rfl⟩ := List.mem_map.mp he
    exact edg_all lt pos k) ha hb
theorem ex_C (ks : List Nat) : exL L ks = exC n L ks := by
  show exF L ks (List.range L.length) = _
  unfold exF exC
  refine flat_congr fun k _ => ?_
  split
  · rfl
  · refine congrArg (List.map fun j => (k, j)) ?_
    unfold onR onW
    refine List.filter_congr fun j _ => ?_
    obtain ⟨h1, h2⟩ := edg_all lt pos k
    have q := jn_C lt pos (wo ks j) h1 h2
    refine congrArg (fun b => !b) ?_
    classical
    rw [Bool.eq_iff_iff]
    exact ⟨fun h => q.mp (@of_decide_eq_true _ _ h), fun h => @decide_eq_true _ _ (q.mpr h)⟩
def ldC (n : Nat) (L : List (Str × Nat × Nat)) (B : List Nat) : List Nat → List (Nat × Nat) → Bool
  | A, [] => decide (A = B)
  | A, e :: r => decide (e ∈ exC n L A) && ldC n L B (swpC A e.1 e.2) r
theorem ld_C (B : List Nat) : ∀ (R : List (Nat × Nat)) (A : List Nat), ldP L B A (R.map pairV) = ldC n L B A R
  | [], A => rfl
  | e :: R, A => by
    have ih := ld_C B R (swp A e.1 e.2)
    have q : isx (exL L A) (pairV e) = decide (e ∈ exC n L A) := by
      rw [Bool.eq_iff_iff, decide_eq_true_iff, ← ex_C lt pos]
      exact isx_mem
    show (isx (exL L A) (pairV e) && ldP L B (swp A e.1 e.2) (R.map pairV)) = _
    rw [ih, q, swp_C]; rfl
end
def sqN : List Str := ["a", "b", "c", "d"]
def sqL : List (Str × Nat × Nat) := [("e", 0, 1), ("f", 1, 2), ("g", 2, 3), ("h", 0, 3), ("i", 0, 2)]
theorem sqNet : Net sqN sqL := ⟨by decide, by decide, fun p hp => by
    have hp' : p < 4 := hp
    exact (Cn_homes (n := 4) (by decide) (by omega) hp').mpr (by
      have : p = 0 ∨ p = 1 ∨ p = 2 ∨ p = 3 := by omega
      rcases this with rfl | rfl | rfl | rfl <;> decide), by decide, by decide⟩
theorem sq_jn {js : List Nat} {a b : Nat} (ha : a < 4) (hb : b < 4) : Jn (edg sqL) js a b ↔ jnC 4 sqL js a b = true := jn_C (n := 4) sqNet.lt (by decide) js ha hb
theorem sqTree {ks : List Nat} (h1 : ∀ k ∈ ks, k < sqL.length) (h2 : ks.Pairwise (· ≤ ·)) (h3 : ks.Nodup) (h4 : ∀ k ∈ ks, jnC 4 sqL (wo ks k) (edg sqL k).1 (edg sqL k).2 = false) (h5 : ∀ a, a < 4 → ∀ b, b < 4 → jnC 4 sqL ks a b = true) : Tree sqN.length sqL ks := ⟨h1, h2, h3, fun k hk c => by
    obtain ⟨x, y⟩ := edg_all (n := 4) sqNet.lt (by decide) k
    have := (sq_jn x y).mp c
    rw [h4 k hk] at this
    exact Bool.noConfusion this, fun a b ha hb => (sq_jn ha hb).mpr (h5 a ha b hb)⟩
theorem sqA : Tree sqN.length sqL [0, 1, 2] := sqTree (by decide) (by decide) (by decide) (by decide) (by decide)
theorem sqB : Tree sqN.length sqL [0, 3, 4] := sqTree (by decide) (by decide) (by decide) (by decide) (by decide)
theorem sq_is {A B : List Nat} (TA : Tree sqN.length sqL A) {R : List (Nat × Nat)} (hz : R.length ≤ 40) {b : Bool} (e : (decide (R.length = (dif A B).length) && ldC 4 sqL B A R) = b) (h : AH) :
    m_is_step_row [netV sqN sqL, .tup (A.map nI), .tup (B.map nI), .tup (R.map pairV)] h = .ok (.bl b) h := by
  rw [is_step sqNet TA (by rw [List.length_map]; omega) (fun x hx => (pg_map pg_pair R x hx).1) h, ld_C (n := 4) sqNet.lt (by decide), List.length_map, e]
theorem sq1 (h : AH) : m_is_step_row [netV sqN sqL, .tup ([0, 1, 2].map nI), .tup ([0, 3, 4].map nI), .tup ([(3, 2), (4, 1)].map pairV)] h = .ok (.bl true) h := sq_is sqA (by decide) (by decide +kernel) h
theorem sq2 (h : AH) : m_is_step_row [netV sqN sqL, .tup ([0, 1, 2].map nI), .tup ([0, 3, 4].map nI), .tup ([(4, 1), (3, 2)].map pairV)] h = .ok (.bl true) h := sq_is sqA (by decide) (by decide +kernel) h
theorem sq3 (h : AH) : m_is_step_row [netV sqN sqL, .tup ([0, 1, 2].map nI), .tup ([0, 3, 4].map nI), .tup ([(4, 2), (3, 1)].map pairV)] h = .ok (.bl false) h := sq_is sqA (by decide) (by decide +kernel) h
theorem sq4 (h : AH) : m_is_step_row [netV sqN sqL, .tup ([0, 1, 2].map nI), .tup ([0, 3, 4].map nI), .tup ([(3, 1), (4, 2)].map pairV)] h = .ok (.bl true) h := sq_is sqA (by decide) (by decide +kernel) h
theorem sq5 (h : AH) : m_is_step_row [netV sqN sqL, .tup ([0, 1, 2].map nI), .tup ([0, 1, 2].map nI), .tup (([] : List (Nat × Nat)).map pairV)] h = .ok (.bl true) h := sq_is sqA (by decide) (by decide +kernel) h
end G20

namespace G20
open PySem PySem.Spec
open PyProof.Rows hiding St
open L2 AB MG
def sgL (a : PV) (o2 o3 o4 o5 o6 : Option PV) : ASt := [some a, some (.loc 2), o2, o3, o4, o5, o6]
noncomputable abbrev bdLaw : AS := (sIf (tNot (aTr (aCall 3 m__law_drawn (aCons (aVar 1) (aCons (aOp fAdd (aC (.int 2)) (aCall 2 m__law_tip (aCons (aVar 1) (aCons (aC (.int 5)) (aNil))))) (aCons (aOp fAdd (aC (.int 1)) (aCall 2 m__law_tip (aCons (aVar 1) (aCons (aC (.int 4)) (aNil))))) (aNil))))))) (sRet (aC (.bl false))) (sNext))
theorem draw_in {h : AH} (t : Tp h) (a : PV) (o2 o3 o4 o5 o6 : Option PV) : ∃ h', bdLaw (sgL a o2 o3 o4 o5 o6) h = .fin .nx (sgL a o2 o3 o4 o5 o6) h' ∧ Mv h h' := by
  obtain ⟨x, h1, e1, x0, x1, m1⟩ := tip t (k := 5) (by omega) (by omega)
  have t1 := t.mv m1
  obtain ⟨y, h2, e2, y0, y1, m2⟩ := tip t1 (k := 4) (by omega) (by omega)
  have t2 := t1.mv m2
  obtain ⟨n, hn⟩ : ∃ n : Nat, 2 + x = n := ⟨(2 + x).toNat, by omega⟩
  obtain ⟨m, hm⟩ : ∃ m : Nat, 1 + y = m := ⟨(1 + y).toNat, by omega⟩
  obtain ⟨h3, e3, m3⟩ := drawn t2 (n := n) (more := m) (by omega) (by omega) (by omega)
  refine ⟨h3, ?_, (m1.tr m2).tr m3⟩
  let σ := sgL a o2 o3 o4 o5 o6
  have a1 : (aOp fAdd (aC (.int 2)) (aCall 2 m__law_tip (aCons (aVar 1) (aCons (aC (.int 5)) (aNil))))) σ h = .ok (.int n) h1 := (aOp_ok (x := .int 2) (y := .int x) rfl (aCall_ok rfl rfl e1) (fAdd_i _ _ _)).trans (by rw [hn])
  have a2 : (aOp fAdd (aC (.int 1)) (aCall 2 m__law_tip (aCons (aVar 1) (aCons (aC (.int 4)) (aNil))))) σ h1 = .ok (.int m) h2 := (aOp_ok (x := .int 1) (y := .int y) rfl (aCall_ok rfl rfl e2) (fAdd_i _ _ _)).trans (by rw [hm])
  refine (sIf_f (h1 := h3) (tNot_ok (b := true) (aTr_ok (aCall_ok (xs := [.loc 2, .int n, .int m]) (h1 := h2) (aCons_ok rfl (aCons_ok a1 (aCons_ok a2 rfl))) rfl e3)))).trans rfl
theorem aOr_t {a b : AE} {σ : ASt} {h h1 : AH} (e : a σ h = .ok (.bl true) h1) : aOr a b σ h = .ok (.bl true) h1 := by rw [aOr_eq, e]; rfl
theorem aOr_f {a b : AE} {σ : ASt} {h h1 : AH} (e : a σ h = .ok (.bl false) h1) : aOr a b σ h = b σ h1 := by rw [aOr_eq, e]; rfl
theorem law_ok (ns : List Int) (hl : ns.length ≤ 63) : ∃ h', m_law [.ro (ns.map PV.int)] [] = .ok (.bl true) h' := by
  unfold m_law b_law
  let a : PV := .ro (ns.map PV.int)
  obtain ⟨h0, e0, t0⟩ := crock ns
  obtain ⟨h1, e1, m1⟩ := paths t0
  have t1 := t0.mv m1
  obtain ⟨σ', h2, eF, o2, rfl, t2⟩ := for_rg (g := gN 2) (b := bdLaw) 0 4
    (fun _ σ g => ∃ (o2 : Option PV), σ = sgL a o2 none none none none ∧ Tp g) (σ := sgL a none none none none none) (h := h1) ⟨none, rfl, t1⟩
    (fun i σ g _ ⟨o2, e1, t⟩ => by
      subst e1
      obtain ⟨g', e, m⟩ := draw_in t a (some (.int ((0 : Int) + (i : Nat)))) none none none none
      exact ⟨_, _, _, _, rfl, e, _, rfl, t.mv m⟩)
  let sq : PV := netV sqN sqL
  let A : PV := .tup ([0, 1, 2].map nI)
  let B : PV := .tup ([0, 3, 4].map nI)
  let S : Option PV → ASt := fun o6 => sgL a o2 (some sq) (some A) (some B) o6
  have s3 : (sSet 3 (aTup (aCons (aTup (aCons (aC (.str "a")) (aCons (aC (.str "b")) (aCons (aC (.str "c")) (aCons (aC (.str "d")) (aNil)))))) (aCons (aTup (aCons (aTup (aCons (aC (.str "e")) (aCons (aC (.int 0)) (aCons (aC (.int 1)) (aNil))))) (aCons (aTup (aCons (aC (.str "f")) (aCons (aC (.int 1)) (aCons (aC (.int 2)) (aNil))))) (aCons (aTup (aCons (aC (.str "g")) (aCons (aC (.int 2)) (aCons (aC (.int 3)) (aNil))))) (aCons (aTup (aCons (aC (.str "h")) (aCons (aC (.int 0)) (aCons (aC (.int 3)) (aNil))))) (aCons (aTup (aCons (aC (.str "i")) (aCons (aC (.int 0)) (aCons (aC (.int 2)) (aNil))))) (aNil))))))) (aNil))))) (sgL a o2 none none none none) h2 = .fin .nx (sgL a o2 (some sq) none none none) h2 := by
    refine sSet_ok (v := sq) (h1 := h2) ?_
    exact aTup_ok (xs := [.tup (sqN.map .str), .tup (sqL.map lineV)]) (aCons_ok (aTup_ok (xs := sqN.map .str) rfl (by decide)) (aCons_ok (aTup_ok (xs := sqL.map lineV) (aCons_ok (aTup_ok (xs := [.str "e", .int 0, .int 1]) rfl (by simp)) (aCons_ok (aTup_ok (xs := [.str "f", .int 1, .int 2]) rfl (by simp)) (aCons_ok (aTup_ok (xs := [.str "g", .int 2, .int 3]) rfl (by simp)) (aCons_ok (aTup_ok (xs := [.str "h", .int 0, .int 3]) rfl (by simp)) (aCons_ok (aTup_ok (xs := [.str "i", .int 0, .int 2]) rfl (by simp)) rfl))))) (by decide)) rfl)) (by simp)
  have s4 : (sAsg (aTup (aCons (aTup (aCons (aC (.int 0)) (aCons (aC (.int 1)) (aCons (aC (.int 2)) (aNil))))) (aCons (aTup (aCons (aC (.int 0)) (aCons (aC (.int 3)) (aCons (aC (.int 4)) (aNil))))) (aNil)))) (gTup' 2 (gCons' (gN 4) (gCons' (gN 5) (gNil'))))) (sgL a o2 (some sq) none none none) h2 = .fin .nx (S none) h2 :=
    sAsg_ok (v := .tup [A, B]) (h1 := h2) (aTup_ok (aCons_ok (aTup_ok (xs := [0, 1, 2].map nI) rfl (by simp)) (aCons_ok (aTup_ok (xs := [0, 3, 4].map nI) rfl (by simp)) rfl)) (by simp)) rfl
  let w1 : PV := .tup [.bl true, .bl true]
  let w2 : PV := .tup [.bl true, .bl true, .bl false, .bl true, .bl true]
  have s5 : (sSet 6 (aTup (aCons (aCall 4 m_is_step_row (aCons (aVar 3) (aCons (aVar 4) (aCons (aVar 5) (aCons (aTup (aCons (aTup (aCons (aC (.int 3)) (aCons (aC (.int 2)) (aNil)))) (aCons (aTup (aCons (aC (.int 4)) (aCons (aC (.int 1)) (aNil)))) (aNil)))) (aNil)))))) (aCons (aCall 4 m_is_step_row (aCons (aVar 3) (aCons (aVar 4) (aCons (aVar 5) (aCons (aTup (aCons (aTup (aCons (aC (.int 4)) (aCons (aC (.int 1)) (aNil)))) (aCons (aTup (aCons (aC (.int 3)) (aCons (aC (.int 2)) (aNil)))) (aNil)))) (aNil)))))) (aNil))))) (S none) h2 = .fin .nx (S (some w1)) h2 :=
    sSet_ok (aTup_ok (aCons_ok (aCall_ok (aCons_ok rfl (aCons_ok rfl (aCons_ok rfl (aCons_ok (aTup_ok (xs := [((3 : Nat), (2 : Nat)), ((4 : Nat), (1 : Nat))].map pairV) (aCons_ok (aTup_ok (xs := [.int 3, .int 2]) rfl (by simp)) (aCons_ok (aTup_ok (xs := [.int 4, .int 1]) rfl (by simp)) rfl)) (by simp)) rfl)))) rfl (sq1 h2)) (aCons_ok (aCall_ok (aCons_ok rfl (aCons_ok rfl (aCons_ok rfl (aCons_ok (aTup_ok (xs := [((4 : Nat), (1 : Nat)), ((3 : Nat), (2 : Nat))].map pairV) (aCons_ok (aTup_ok (xs := [.int 4, .int 1]) rfl (by simp)) (aCons_ok (aTup_ok (xs := [.int 3, .int 2]) rfl (by simp)) rfl)) (by simp)) rfl)))) rfl (sq2 h2)) rfl)) (by simp))
  have s6 : (sSet 6 (aOp fAdd (aVar 6) (aTup (aCons (aCall 4 m_is_step_row (aCons (aVar 3) (aCons (aVar 4) (aCons (aVar 5) (aCons (aTup (aCons (aTup (aCons (aC (.int 4)) (aCons (aC (.int 2)) (aNil)))) (aCons (aTup (aCons (aC (.int 3)) (aCons (aC (.int 1)) (aNil)))) (aNil)))) (aNil)))))) (aCons (aCall 4 m_is_step_row (aCons (aVar 3) (aCons (aVar 4) (aCons (aVar 5) (aCons (aTup (aCons (aTup (aCons (aC (.int 3)) (aCons (aC (.int 1)) (aNil)))) (aCons (aTup (aCons (aC (.int 4)) (aCons (aC (.int 2)) (aNil)))) (aNil)))) (aNil)))))) (aCons (aCall 4 m_is_step_row (aCons (aVar 3) (aCons (aVar 4) (aCons (aVar 4) (aCons (aTup (aNil)) (aNil)))))) (aNil))))))) (S (some w1)) h2 = .fin .nx (S (some w2)) h2 :=
    sSet_ok (aOp_ok (x := w1) rfl (aTup_ok (xs := [.bl false, .bl true, .bl true]) (aCons_ok (aCall_ok (aCons_ok rfl (aCons_ok rfl (aCons_ok rfl (aCons_ok (aTup_ok (xs := [((4 : Nat), (2 : Nat)), ((3 : Nat), (1 : Nat))].map pairV) (aCons_ok (aTup_ok (xs := [.int 4, .int 2]) rfl (by simp)) (aCons_ok (aTup_ok (xs := [.int 3, .int 1]) rfl (by simp)) rfl)) (by simp)) rfl)))) rfl (sq3 h2)) (aCons_ok (aCall_ok (aCons_ok rfl (aCons_ok rfl (aCons_ok rfl (aCons_ok (aTup_ok (xs := [((3 : Nat), (1 : Nat)), ((4 : Nat), (2 : Nat))].map pairV) (aCons_ok (aTup_ok (xs := [.int 3, .int 1]) rfl (by simp)) (aCons_ok (aTup_ok (xs := [.int 4, .int 2]) rfl (by simp)) rfl)) (by simp)) rfl)))) rfl (sq4 h2)) (aCons_ok (aCall_ok (aCons_ok rfl (aCons_ok rfl (aCons_ok rfl (aCons_ok (aTup_ok (xs := []) rfl (by simp)) rfl)))) rfl (sq5 h2)) rfl))) (by simp)) (fAdd_t (by simp)))
  have ec : (tNot (aTr (aCall 2 m__law_same (aCons (aVar 6) (aCons (aTup (aCons (aC (.bl true)) (aCons (aC (.bl true)) (aCons (aC (.bl false)) (aCons (aC (.bl true)) (aCons (aC (.bl true)) (aNil))))))) (aNil)))))) (S (some w2)) h2 = .ok false h2 :=
    tNot_ok (b := true) (aTr_ok (aCall_ok (xs := [w2, w2]) (aCons_ok rfl (aCons_ok (aTup_ok (xs := [.bl true, .bl true, .bl false, .bl true, .bl true]) rfl (by simp)) rfl)) rfl (same rfl (by decide) h2)))
  obtain ⟨r, h4, e4, r0, r1, m4⟩ := tip t2 (k := 7) (by omega) (by omega)
  have t4 := t2.mv m4
  have e7 : (aOp fNe (aCall 2 m__law_tip (aCons (aVar 1) (aCons (aC (.int 7)) (aNil)))) (aC (.int 4))) (S (some w2)) h2 = .ok (.bl (!decide (r = 4))) h4 := aOp_ok (aCall_ok rfl rfl e4) rfl (fNe_i _ _ _)
  obtain ⟨h5, eE⟩ : ∃ h5, (aOr (aOp fNe (aCall 2 m__law_tip (aCons (aVar 1) (aCons (aC (.int 7)) (aNil)))) (aC (.int 4))) (aCall 3 m__law_drawn (aCons (aVar 1) (aCons (aC (.int 10)) (aCons (aC (.int 11)) (aNil)))))) (S (some w2)) h2 = .ok (.bl true) h5 := by
    by_cases c : r = 4
    · rw [decide_eq_true c] at e7
      obtain ⟨h5, e5, _⟩ := drawn t4 (n := 10) (more := 11) (by omega) (by omega) (by omega)
      exact ⟨h5, (aOr_f e7).trans (aCall_ok rfl rfl e5)⟩
    · rw [decide_eq_false c] at e7
      exact ⟨h4, aOr_t e7⟩
  refine ⟨[], (mDef_rt (σ := S (some w2)) (h1 := [] ++ h5) (v := .bl true) ?_).trans (finC_ext rfl)⟩
  refine sSeq_ok (σ1 := sgL a none none none none none) (h1 := h0) (sSet_ok (aCall_ok rfl rfl e0)) ?_
  refine sSeq_ok (σ1 := sgL a none none none none none) (h1 := h1) ((sIf_f (tNot_ok (b := true) (aTr_ok (aCall_ok rfl rfl e1)))).trans rfl) ?_
  refine sSeq_ok (sFor_ok (aItR1_ok (j := 4) rfl (by omega) (by omega)) eF) ?_
  refine sSeq_ok s3 ?_
  refine sSeq_ok s4 ?_
  refine sSeq_ok s5 ?_
  refine sSeq_ok s6 ?_
  refine sSeq_ok (σ1 := S (some w2)) (h1 := h2) ((sIf_f ec).trans rfl) ?_
  exact sRet_ok eE
end G20

namespace G20
open PySem PySem.Spec
open PyProof.Rows hiding St
open L2 AB
section
theorem all_mk {P : Program} {w : World} {K : PySem.W.Frag} {h : Heap} {mg : Str → Option Value} {fa : Addr} (X : K.In h) (G : h.Ns mainGlobals mg) (hfa : mg "law" = some (.ref fa))
    {od1 an1 : Option Addr} {sl1 : Array (Option Value)} {f1 : Addr} {oc1 kV1 dc1 pm1 cd1 ct1 : Value}
    (a1 : PySem.W.nsIn K mainGlobals "is_integer" = some (some (.ref f1))) (l1 : K.lookup f1 = some ⟨oc1, od1, .func (PySem.W.fnOf "is_integer" "is_integer" (defArgs s_is_integer) (defBody s_is_integer) (defScope s_is_integer) .none kV1 dc1 pm1 an1 cd1 ct1), sl1⟩) (c1 : PySem.W.codeIn K cd1 "is_integer" = true) (k1 : PySem.W.keepIn K (.ref f1) = true)
    {od2 an2 : Option Addr} {sl2 : Array (Option Value)} {f2 : Addr} {oc2 kV2 dc2 pm2 cd2 ct2 : Value}
    (a2 : PySem.W.nsIn K mainGlobals "tuple_of" = some (some (.ref f2))) (l2 : K.lookup f2 = some ⟨oc2, od2, .func (PySem.W.fnOf "tuple_of" "tuple_of" (defArgs s_tuple_of) (defBody s_tuple_of) (defScope s_tuple_of) .none kV2 dc2 pm2 an2 cd2 ct2), sl2⟩) (c2 : PySem.W.codeIn K cd2 "tuple_of" = true) (k2 : PySem.W.keepIn K (.ref f2) = true)
    {od3 an3 : Option Addr} {sl3 : Array (Option Value)} {f3 : Addr} {oc3 kV3 dc3 pm3 cd3 ct3 : Value}
    (a3 : PySem.W.nsIn K mainGlobals "ends_of" = some (some (.ref f3))) (l3 : K.lookup f3 = some ⟨oc3, od3, .func (PySem.W.fnOf "ends_of" "ends_of" (defArgs s_ends_of) (defBody s_ends_of) (defScope s_ends_of) .none kV3 dc3 pm3 an3 cd3 ct3), sl3⟩) (c3 : PySem.W.codeIn K cd3 "ends_of" = true) (k3 : PySem.W.keepIn K (.ref f3) = true)
    {od4 an4 : Option Addr} {sl4 : Array (Option Value)} {f4 : Addr} {oc4 kV4 dc4 pm4 cd4 ct4 : Value}
    (a4 : PySem.W.nsIn K mainGlobals "merged" = some (some (.ref f4))) (l4 : K.lookup f4 = some ⟨oc4, od4, .func (PySem.W.fnOf "merged" "merged" (defArgs s_merged) (defBody s_merged) (defScope s_merged) .none kV4 dc4 pm4 an4 cd4 ct4), sl4⟩) (c4 : PySem.W.codeIn K cd4 "merged" = true) (k4 : PySem.W.keepIn K (.ref f4) = true)
    {od5 an5 : Option Addr} {sl5 : Array (Option Value)} {f5 : Addr} {oc5 kV5 dc5 pm5 cd5 ct5 : Value}
    (a5 : PySem.W.nsIn K mainGlobals "all_lines" = some (some (.ref f5))) (l5 : K.lookup f5 = some ⟨oc5, od5, .func (PySem.W.fnOf "all_lines" "all_lines" (defArgs s_all_lines) (defBody s_all_lines) (defScope s_all_lines) .none kV5 dc5 pm5 an5 cd5 ct5), sl5⟩) (c5 : PySem.W.codeIn K cd5 "all_lines" = true) (k5 : PySem.W.keepIn K (.ref f5) = true)
    {od6 an6 : Option Addr} {sl6 : Array (Option Value)} {f6 : Addr} {oc6 kV6 dc6 pm6 cd6 ct6 : Value}
    (a6 : PySem.W.nsIn K mainGlobals "exchanged" = some (some (.ref f6))) (l6 : K.lookup f6 = some ⟨oc6, od6, .func (PySem.W.fnOf "exchanged" "exchanged" (defArgs s_exchanged) (defBody s_exchanged) (defScope s_exchanged) .none kV6 dc6 pm6 an6 cd6 ct6), sl6⟩) (c6 : PySem.W.codeIn K cd6 "exchanged" = true) (k6 : PySem.W.keepIn K (.ref f6) = true)
    {od7 an7 : Option Addr} {sl7 : Array (Option Value)} {f7 : Addr} {oc7 kV7 dc7 pm7 cd7 ct7 : Value}
    (a7 : PySem.W.nsIn K mainGlobals "fewest_steps" = some (some (.ref f7))) (l7 : K.lookup f7 = some ⟨oc7, od7, .func (PySem.W.fnOf "fewest_steps" "fewest_steps" (defArgs s_fewest_steps) (defBody s_fewest_steps) (defScope s_fewest_steps) .none kV7 dc7 pm7 an7 cd7 ct7), sl7⟩) (c7 : PySem.W.codeIn K cd7 "fewest_steps" = true) (k7 : PySem.W.keepIn K (.ref f7) = true)
    {od8 an8 : Option Addr} {sl8 : Array (Option Value)} {f8 : Addr} {oc8 kV8 dc8 pm8 cd8 ct8 : Value}
    (a8 : PySem.W.nsIn K mainGlobals "_law_crock" = some (some (.ref f8))) (l8 : K.lookup f8 = some ⟨oc8, od8, .func (PySem.W.fnOf "_law_crock" "_law_crock" (defArgs s__law_crock) (defBody s__law_crock) (defScope s__law_crock) .none kV8 dc8 pm8 an8 cd8 ct8), sl8⟩) (c8 : PySem.W.codeIn K cd8 "_law_crock" = true) (k8 : PySem.W.keepIn K (.ref f8) = true)
    {od9 an9 : Option Addr} {sl9 : Array (Option Value)} {f9 : Addr} {oc9 kV9 dc9 pm9 cd9 ct9 : Value}
    (a9 : PySem.W.nsIn K mainGlobals "_law_tip" = some (some (.ref f9))) (l9 : K.lookup f9 = some ⟨oc9, od9, .func (PySem.W.fnOf "_law_tip" "_law_tip" (defArgs s__law_tip) (defBody s__law_tip) (defScope s__law_tip) .none kV9 dc9 pm9 an9 cd9 ct9), sl9⟩) (c9 : PySem.W.codeIn K cd9 "_law_tip" = true) (k9 : PySem.W.keepIn K (.ref f9) = true)
    {od10 an10 : Option Addr} {sl10 : Array (Option Value)} {f10 : Addr} {oc10 kV10 dc10 pm10 cd10 ct10 : Value}
    (a10 : PySem.W.nsIn K mainGlobals "_law_same" = some (some (.ref f10))) (l10 : K.lookup f10 = some ⟨oc10, od10, .func (PySem.W.fnOf "_law_same" "_law_same" (defArgs s__law_same) (defBody s__law_same) (defScope s__law_same) .none kV10 dc10 pm10 an10 cd10 ct10), sl10⟩) (c10 : PySem.W.codeIn K cd10 "_law_same" = true) (k10 : PySem.W.keepIn K (.ref f10) = true)
    {od11 an11 : Option Addr} {sl11 : Array (Option Value)} {f11 : Addr} {oc11 kV11 dc11 pm11 cd11 ct11 : Value}
    (a11 : PySem.W.nsIn K mainGlobals "_law_way" = some (some (.ref f11))) (l11 : K.lookup f11 = some ⟨oc11, od11, .func (PySem.W.fnOf "_law_way" "_law_way" (defArgs s__law_way) (defBody s__law_way) (defScope s__law_way) .none kV11 dc11 pm11 an11 cd11 ct11), sl11⟩) (c11 : PySem.W.codeIn K cd11 "_law_way" = true) (k11 : PySem.W.keepIn K (.ref f11) = true)
    {od12 an12 : Option Addr} {sl12 : Array (Option Value)} {f12 : Addr} {oc12 kV12 dc12 pm12 cd12 ct12 : Value}
    (a12 : PySem.W.nsIn K mainGlobals "_law_after" = some (some (.ref f12))) (l12 : K.lookup f12 = some ⟨oc12, od12, .func (PySem.W.fnOf "_law_after" "_law_after" (defArgs s__law_after) (defBody s__law_after) (defScope s__law_after) .none kV12 dc12 pm12 an12 cd12 ct12), sl12⟩) (c12 : PySem.W.codeIn K cd12 "_law_after" = true) (k12 : PySem.W.keepIn K (.ref f12) = true)
    {od13 an13 : Option Addr} {sl13 : Array (Option Value)} {f13 : Addr} {oc13 kV13 dc13 pm13 cd13 ct13 : Value}
    (a13 : PySem.W.nsIn K mainGlobals "_law_whole" = some (some (.ref f13))) (l13 : K.lookup f13 = some ⟨oc13, od13, .func (PySem.W.fnOf "_law_whole" "_law_whole" (defArgs s__law_whole) (defBody s__law_whole) (defScope s__law_whole) .none kV13 dc13 pm13 an13 cd13 ct13), sl13⟩) (c13 : PySem.W.codeIn K cd13 "_law_whole" = true) (k13 : PySem.W.keepIn K (.ref f13) = true)
    {od14 an14 : Option Addr} {sl14 : Array (Option Value)} {f14 : Addr} {oc14 kV14 dc14 pm14 cd14 ct14 : Value}
    (a14 : PySem.W.nsIn K mainGlobals "are_integers" = some (some (.ref f14))) (l14 : K.lookup f14 = some ⟨oc14, od14, .func (PySem.W.fnOf "are_integers" "are_integers" (defArgs s_are_integers) (defBody s_are_integers) (defScope s_are_integers) .none kV14 dc14 pm14 an14 cd14 ct14), sl14⟩) (c14 : PySem.W.codeIn K cd14 "are_integers" = true) (k14 : PySem.W.keepIn K (.ref f14) = true)
    {od15 an15 : Option Addr} {sl15 : Array (Option Value)} {f15 : Addr} {oc15 kV15 dc15 pm15 cd15 ct15 : Value}
    (a15 : PySem.W.nsIn K mainGlobals "homes_by" = some (some (.ref f15))) (l15 : K.lookup f15 = some ⟨oc15, od15, .func (PySem.W.fnOf "homes_by" "homes_by" (defArgs s_homes_by) (defBody s_homes_by) (defScope s_homes_by) .none kV15 dc15 pm15 an15 cd15 ct15), sl15⟩) (c15 : PySem.W.codeIn K cd15 "homes_by" = true) (k15 : PySem.W.keepIn K (.ref f15) = true)
    {od16 an16 : Option Addr} {sl16 : Array (Option Value)} {f16 : Addr} {oc16 kV16 dc16 pm16 cd16 ct16 : Value}
    (a16 : PySem.W.nsIn K mainGlobals "steps_from" = some (some (.ref f16))) (l16 : K.lookup f16 = some ⟨oc16, od16, .func (PySem.W.fnOf "steps_from" "steps_from" (defArgs s_steps_from) (defBody s_steps_from) (defScope s_steps_from) .none kV16 dc16 pm16 an16 cd16 ct16), sl16⟩) (c16 : PySem.W.codeIn K cd16 "steps_from" = true) (k16 : PySem.W.keepIn K (.ref f16) = true)
    {od17 an17 : Option Addr} {sl17 : Array (Option Value)} {f17 : Addr} {oc17 kV17 dc17 pm17 cd17 ct17 : Value}
    (a17 : PySem.W.nsIn K mainGlobals "_law_mixed" = some (some (.ref f17))) (l17 : K.lookup f17 = some ⟨oc17, od17, .func (PySem.W.fnOf "_law_mixed" "_law_mixed" (defArgs s__law_mixed) (defBody s__law_mixed) (defScope s__law_mixed) .none kV17 dc17 pm17 an17 cd17 ct17), sl17⟩) (c17 : PySem.W.codeIn K cd17 "_law_mixed" = true) (k17 : PySem.W.keepIn K (.ref f17) = true)
    {od18 an18 : Option Addr} {sl18 : Array (Option Value)} {f18 : Addr} {oc18 kV18 dc18 pm18 cd18 ct18 : Value}
    (a18 : PySem.W.nsIn K mainGlobals "_law_words" = some (some (.ref f18))) (l18 : K.lookup f18 = some ⟨oc18, od18, .func (PySem.W.fnOf "_law_words" "_law_words" (defArgs s__law_words) (defBody s__law_words) (defScope s__law_words) .none kV18 dc18 pm18 an18 cd18 ct18), sl18⟩) (c18 : PySem.W.codeIn K cd18 "_law_words" = true) (k18 : PySem.W.keepIn K (.ref f18) = true)
    {od19 an19 : Option Addr} {sl19 : Array (Option Value)} {f19 : Addr} {oc19 kV19 dc19 pm19 cd19 ct19 : Value}
    (a19 : PySem.W.nsIn K mainGlobals "_law_exchanges" = some (some (.ref f19))) (l19 : K.lookup f19 = some ⟨oc19, od19, .func (PySem.W.fnOf "_law_exchanges" "_law_exchanges" (defArgs s__law_exchanges) (defBody s__law_exchanges) (defScope s__law_exchanges) .none kV19 dc19 pm19 an19 cd19 ct19), sl19⟩) (c19 : PySem.W.codeIn K cd19 "_law_exchanges" = true) (k19 : PySem.W.keepIn K (.ref f19) = true)
    {od20 an20 : Option Addr} {sl20 : Array (Option Value)} {f20 : Addr} {oc20 kV20 dc20 pm20 cd20 ct20 : Value}
    (a20 : PySem.W.nsIn K mainGlobals "_law_are_pairs" = some (some (.ref f20))) (l20 : K.lookup f20 = some ⟨oc20, od20, .func (PySem.W.fnOf "_law_are_pairs" "_law_are_pairs" (defArgs s__law_are_pairs) (defBody s__law_are_pairs) (defScope s__law_are_pairs) .none kV20 dc20 pm20 an20 cd20 ct20), sl20⟩) (c20 : PySem.W.codeIn K cd20 "_law_are_pairs" = true) (k20 : PySem.W.keepIn K (.ref f20) = true)
    {od21 an21 : Option Addr} {sl21 : Array (Option Value)} {f21 : Addr} {oc21 kV21 dc21 pm21 cd21 ct21 : Value}
    (a21 : PySem.W.nsIn K mainGlobals "hangs_together" = some (some (.ref f21))) (l21 : K.lookup f21 = some ⟨oc21, od21, .func (PySem.W.fnOf "hangs_together" "hangs_together" (defArgs s_hangs_together) (defBody s_hangs_together) (defScope s_hangs_together) .none kV21 dc21 pm21 an21 cd21 ct21), sl21⟩) (c21 : PySem.W.codeIn K cd21 "hangs_together" = true) (k21 : PySem.W.keepIn K (.ref f21) = true)
    {od22 an22 : Option Addr} {sl22 : Array (Option Value)} {f22 : Addr} {oc22 kV22 dc22 pm22 cd22 ct22 : Value}
    (a22 : PySem.W.nsIn K mainGlobals "way_along" = some (some (.ref f22))) (l22 : K.lookup f22 = some ⟨oc22, od22, .func (PySem.W.fnOf "way_along" "way_along" (defArgs s_way_along) (defBody s_way_along) (defScope s_way_along) .none kV22 dc22 pm22 an22 cd22 ct22), sl22⟩) (c22 : PySem.W.codeIn K cd22 "way_along" = true) (k22 : PySem.W.keepIn K (.ref f22) = true)
    {od23 an23 : Option Addr} {sl23 : Array (Option Value)} {f23 : Addr} {oc23 kV23 dc23 pm23 cd23 ct23 : Value}
    (a23 : PySem.W.nsIn K mainGlobals "_law_net" = some (some (.ref f23))) (l23 : K.lookup f23 = some ⟨oc23, od23, .func (PySem.W.fnOf "_law_net" "_law_net" (defArgs s__law_net) (defBody s__law_net) (defScope s__law_net) .none kV23 dc23 pm23 an23 cd23 ct23), sl23⟩) (c23 : PySem.W.codeIn K cd23 "_law_net" = true) (k23 : PySem.W.keepIn K (.ref f23) = true)
    {od24 an24 : Option Addr} {sl24 : Array (Option Value)} {f24 : Addr} {oc24 kV24 dc24 pm24 cd24 ct24 : Value}
    (a24 : PySem.W.nsIn K mainGlobals "_law_grown" = some (some (.ref f24))) (l24 : K.lookup f24 = some ⟨oc24, od24, .func (PySem.W.fnOf "_law_grown" "_law_grown" (defArgs s__law_grown) (defBody s__law_grown) (defScope s__law_grown) .none kV24 dc24 pm24 an24 cd24 ct24), sl24⟩) (c24 : PySem.W.codeIn K cd24 "_law_grown" = true) (k24 : PySem.W.keepIn K (.ref f24) = true)
    {od25 an25 : Option Addr} {sl25 : Array (Option Value)} {f25 : Addr} {oc25 kV25 dc25 pm25 cd25 ct25 : Value}
    (a25 : PySem.W.nsIn K mainGlobals "_law_leads" = some (some (.ref f25))) (l25 : K.lookup f25 = some ⟨oc25, od25, .func (PySem.W.fnOf "_law_leads" "_law_leads" (defArgs s__law_leads) (defBody s__law_leads) (defScope s__law_leads) .none kV25 dc25 pm25 an25 cd25 ct25), sl25⟩) (c25 : PySem.W.codeIn K cd25 "_law_leads" = true) (k25 : PySem.W.keepIn K (.ref f25) = true)
    {od26 an26 : Option Addr} {sl26 : Array (Option Value)} {f26 : Addr} {oc26 kV26 dc26 pm26 cd26 ct26 : Value}
    (a26 : PySem.W.nsIn K mainGlobals "_law_row" = some (some (.ref f26))) (l26 : K.lookup f26 = some ⟨oc26, od26, .func (PySem.W.fnOf "_law_row" "_law_row" (defArgs s__law_row) (defBody s__law_row) (defScope s__law_row) .none kV26 dc26 pm26 an26 cd26 ct26), sl26⟩) (c26 : PySem.W.codeIn K cd26 "_law_row" = true) (k26 : PySem.W.keepIn K (.ref f26) = true)
    {od27 an27 : Option Addr} {sl27 : Array (Option Value)} {f27 : Addr} {oc27 kV27 dc27 pm27 cd27 ct27 : Value}
    (a27 : PySem.W.nsIn K mainGlobals "_law_bent" = some (some (.ref f27))) (l27 : K.lookup f27 = some ⟨oc27, od27, .func (PySem.W.fnOf "_law_bent" "_law_bent" (defArgs s__law_bent) (defBody s__law_bent) (defScope s__law_bent) .none kV27 dc27 pm27 an27 cd27 ct27), sl27⟩) (c27 : PySem.W.codeIn K cd27 "_law_bent" = true) (k27 : PySem.W.keepIn K (.ref f27) = true)
    {od28 an28 : Option Addr} {sl28 : Array (Option Value)} {f28 : Addr} {oc28 kV28 dc28 pm28 cd28 ct28 : Value}
    (a28 : PySem.W.nsIn K mainGlobals "need_together" = some (some (.ref f28))) (l28 : K.lookup f28 = some ⟨oc28, od28, .func (PySem.W.fnOf "need_together" "need_together" (defArgs s_need_together) (defBody s_need_together) (defScope s_need_together) .none kV28 dc28 pm28 an28 cd28 ct28), sl28⟩) (c28 : PySem.W.codeIn K cd28 "need_together" = true) (k28 : PySem.W.keepIn K (.ref f28) = true)
    {od29 an29 : Option Addr} {sl29 : Array (Option Value)} {f29 : Addr} {oc29 kV29 dc29 pm29 cd29 ct29 : Value}
    (a29 : PySem.W.nsIn K mainGlobals "ring_of" = some (some (.ref f29))) (l29 : K.lookup f29 = some ⟨oc29, od29, .func (PySem.W.fnOf "ring_of" "ring_of" (defArgs s_ring_of) (defBody s_ring_of) (defScope s_ring_of) .none kV29 dc29 pm29 an29 cd29 ct29), sl29⟩) (c29 : PySem.W.codeIn K cd29 "ring_of" = true) (k29 : PySem.W.keepIn K (.ref f29) = true)
    {od30 an30 : Option Addr} {sl30 : Array (Option Value)} {f30 : Addr} {oc30 kV30 dc30 pm30 cd30 ct30 : Value}
    (a30 : PySem.W.nsIn K mainGlobals "exchanges_by" = some (some (.ref f30))) (l30 : K.lookup f30 = some ⟨oc30, od30, .func (PySem.W.fnOf "exchanges_by" "exchanges_by" (defArgs s_exchanges_by) (defBody s_exchanges_by) (defScope s_exchanges_by) .none kV30 dc30 pm30 an30 cd30 ct30), sl30⟩) (c30 : PySem.W.codeIn K cd30 "exchanges_by" = true) (k30 : PySem.W.keepIn K (.ref f30) = true)
    {od31 an31 : Option Addr} {sl31 : Array (Option Value)} {f31 : Addr} {oc31 kV31 dc31 pm31 cd31 ct31 : Value}
    (a31 : PySem.W.nsIn K mainGlobals "exchanges_of" = some (some (.ref f31))) (l31 : K.lookup f31 = some ⟨oc31, od31, .func (PySem.W.fnOf "exchanges_of" "exchanges_of" (defArgs s_exchanges_of) (defBody s_exchanges_of) (defScope s_exchanges_of) .none kV31 dc31 pm31 an31 cd31 ct31), sl31⟩) (c31 : PySem.W.codeIn K cd31 "exchanges_of" = true) (k31 : PySem.W.keepIn K (.ref f31) = true)
    {od32 an32 : Option Addr} {sl32 : Array (Option Value)} {f32 : Addr} {oc32 kV32 dc32 pm32 cd32 ct32 : Value}
    (a32 : PySem.W.nsIn K mainGlobals "is_exchange" = some (some (.ref f32))) (l32 : K.lookup f32 = some ⟨oc32, od32, .func (PySem.W.fnOf "is_exchange" "is_exchange" (defArgs s_is_exchange) (defBody s_is_exchange) (defScope s_is_exchange) .none kV32 dc32 pm32 an32 cd32 ct32), sl32⟩) (c32 : PySem.W.codeIn K cd32 "is_exchange" = true) (k32 : PySem.W.keepIn K (.ref f32) = true)
    {od33 an33 : Option Addr} {sl33 : Array (Option Value)} {f33 : Addr} {oc33 kV33 dc33 pm33 cd33 ct33 : Value}
    (a33 : PySem.W.nsIn K mainGlobals "nearer_exchange" = some (some (.ref f33))) (l33 : K.lookup f33 = some ⟨oc33, od33, .func (PySem.W.fnOf "nearer_exchange" "nearer_exchange" (defArgs s_nearer_exchange) (defBody s_nearer_exchange) (defScope s_nearer_exchange) .none kV33 dc33 pm33 an33 cd33 ct33), sl33⟩) (c33 : PySem.W.codeIn K cd33 "nearer_exchange" = true) (k33 : PySem.W.keepIn K (.ref f33) = true)
    {od34 an34 : Option Addr} {sl34 : Array (Option Value)} {f34 : Addr} {oc34 kV34 dc34 pm34 cd34 ct34 : Value}
    (a34 : PySem.W.nsIn K mainGlobals "step_row" = some (some (.ref f34))) (l34 : K.lookup f34 = some ⟨oc34, od34, .func (PySem.W.fnOf "step_row" "step_row" (defArgs s_step_row) (defBody s_step_row) (defScope s_step_row) .none kV34 dc34 pm34 an34 cd34 ct34), sl34⟩) (c34 : PySem.W.codeIn K cd34 "step_row" = true) (k34 : PySem.W.keepIn K (.ref f34) = true)
    {od35 an35 : Option Addr} {sl35 : Array (Option Value)} {f35 : Addr} {oc35 kV35 dc35 pm35 cd35 ct35 : Value}
    (a35 : PySem.W.nsIn K mainGlobals "is_step_row" = some (some (.ref f35))) (l35 : K.lookup f35 = some ⟨oc35, od35, .func (PySem.W.fnOf "is_step_row" "is_step_row" (defArgs s_is_step_row) (defBody s_is_step_row) (defScope s_is_step_row) .none kV35 dc35 pm35 an35 cd35 ct35), sl35⟩) (c35 : PySem.W.codeIn K cd35 "is_step_row" = true) (k35 : PySem.W.keepIn K (.ref f35) = true)
    {od36 an36 : Option Addr} {sl36 : Array (Option Value)} {f36 : Addr} {oc36 kV36 dc36 pm36 cd36 ct36 : Value}
    (a36 : PySem.W.nsIn K mainGlobals "even_exchange" = some (some (.ref f36))) (l36 : K.lookup f36 = some ⟨oc36, od36, .func (PySem.W.fnOf "even_exchange" "even_exchange" (defArgs s_even_exchange) (defBody s_even_exchange) (defScope s_even_exchange) .none kV36 dc36 pm36 an36 cd36 ct36), sl36⟩) (c36 : PySem.W.codeIn K cd36 "even_exchange" = true) (k36 : PySem.W.keepIn K (.ref f36) = true)
    {od37 an37 : Option Addr} {sl37 : Array (Option Value)} {f37 : Addr} {oc37 kV37 dc37 pm37 cd37 ct37 : Value}
    (a37 : PySem.W.nsIn K mainGlobals "_law_asked" = some (some (.ref f37))) (l37 : K.lookup f37 = some ⟨oc37, od37, .func (PySem.W.fnOf "_law_asked" "_law_asked" (defArgs s__law_asked) (defBody s__law_asked) (defScope s__law_asked) .none kV37 dc37 pm37 an37 cd37 ct37), sl37⟩) (c37 : PySem.W.codeIn K cd37 "_law_asked" = true) (k37 : PySem.W.keepIn K (.ref f37) = true)
    {od38 an38 : Option Addr} {sl38 : Array (Option Value)} {f38 : Addr} {oc38 kV38 dc38 pm38 cd38 ct38 : Value}
    (a38 : PySem.W.nsIn K mainGlobals "_law_drawn" = some (some (.ref f38))) (l38 : K.lookup f38 = some ⟨oc38, od38, .func (PySem.W.fnOf "_law_drawn" "_law_drawn" (defArgs s__law_drawn) (defBody s__law_drawn) (defScope s__law_drawn) .none kV38 dc38 pm38 an38 cd38 ct38), sl38⟩) (c38 : PySem.W.codeIn K cd38 "_law_drawn" = true) (k38 : PySem.W.keepIn K (.ref f38) = true)
    {od39 an39 : Option Addr} {sl39 : Array (Option Value)} {f39 : Addr} {oc39 kV39 dc39 pm39 cd39 ct39 : Value}
    (a39 : PySem.W.nsIn K mainGlobals "_law_paths" = some (some (.ref f39))) (l39 : K.lookup f39 = some ⟨oc39, od39, .func (PySem.W.fnOf "_law_paths" "_law_paths" (defArgs s__law_paths) (defBody s__law_paths) (defScope s__law_paths) .none kV39 dc39 pm39 an39 cd39 ct39), sl39⟩) (c39 : PySem.W.codeIn K cd39 "_law_paths" = true) (k39 : PySem.W.keepIn K (.ref f39) = true)
    {od40 an40 : Option Addr} {sl40 : Array (Option Value)} {f40 : Addr} {oc40 kV40 dc40 pm40 cd40 ct40 : Value}
    (a40 : PySem.W.nsIn K mainGlobals "law" = some (some (.ref f40))) (l40 : K.lookup f40 = some ⟨oc40, od40, .func (PySem.W.fnOf "law" "law" (defArgs s_law) (defBody s_law) (defScope s_law) .none kV40 dc40 pm40 an40 cd40 ct40), sl40⟩) (c40 : PySem.W.codeIn K cd40 "law" = true) (k40 : PySem.W.keepIn K (.ref f40) = true)
    (n1 : PySem.W.nsIn K mainGlobals "abs" = some none)
    (n2 : PySem.W.nsIn K mainGlobals "all" = some none)
    (n3 : PySem.W.nsIn K mainGlobals "bool" = some none)
    (n4 : PySem.W.nsIn K mainGlobals "enumerate" = some none)
    (n5 : PySem.W.nsIn K mainGlobals "int" = some none)
    (n6 : PySem.W.nsIn K mainGlobals "isinstance" = some none)
    (n7 : PySem.W.nsIn K mainGlobals "len" = some none)
    (n8 : PySem.W.nsIn K mainGlobals "list" = some none)
    (n9 : PySem.W.nsIn K mainGlobals "max" = some none)
    (n10 : PySem.W.nsIn K mainGlobals "min" = some none)
    (n11 : PySem.W.nsIn K mainGlobals "range" = some none)
    (n12 : PySem.W.nsIn K mainGlobals "set" = some none)
    (n13 : PySem.W.nsIn K mainGlobals "sorted" = some none)
    (n14 : PySem.W.nsIn K mainGlobals "str" = some none)
    (n15 : PySem.W.nsIn K mainGlobals "tuple" = some none)
    : ∃ fd : FuncData, (∀ (s : Shared) (v : Value), BindsTo s fd ⟨[v], []⟩ [("script", v)]) ∧ ∀ base : Heap, K.In base → base.Ns mainGlobals mg → FnOk P w K mg base (L2.CX P w) 10 fa fd ["script"] (spM ⟨K, w⟩ 1 m_law) := by
  have e := hfa.symm.trans (PySem.W.mg_of X G a40)
  cases e
  let T : Txt K mg := { f_is_integer := f1, d_is_integer := _, g_is_integer := PySem.W.mg_of X G a1, F_is_integer := fun_mk (st := s_is_integer) l1 c1 k1, b_is_integer := (fun_mk (st := s_is_integer) l1 c1 k1).binds (ps := ["thing"]) (fun _ _ _ _ _ _ us hl => match us, hl with | [_], _ => rfl), f_tuple_of := f2, d_tuple_of := _, g_tuple_of := PySem.W.mg_of X G a2, F_tuple_of := fun_mk (st := s_tuple_of) l2 c2 k2, b_tuple_of := (fun_mk (st := s_tuple_of) l2 c2 k2).binds (ps := ["thing", "many"]) (fun _ _ _ _ _ _ us hl => match us, hl with | [_, _], _ => rfl), f_ends_of := f3, d_ends_of := _, g_ends_of := PySem.W.mg_of X G a3, F_ends_of := fun_mk (st := s_ends_of) l3 c3 k3, b_ends_of := (fun_mk (st := s_ends_of) l3 c3 k3).binds (ps := ["net", "line"]) (fun _ _ _ _ _ _ us hl => match us, hl with | [_, _], _ => rfl), f_merged := f4, d_merged := _, g_merged := PySem.W.mg_of X G a4, F_merged := fun_mk (st := s_merged) l4 c4 k4, b_merged := (fun_mk (st := s_merged) l4 c4 k4).binds (ps := ["homes", "one", "other"]) (fun _ _ _ _ _ _ us hl => match us, hl with | [_, _, _], _ => rfl), f_all_lines := f5, d_all_lines := _, g_all_lines := PySem.W.mg_of X G a5, F_all_lines := fun_mk (st := s_all_lines) l5 c5 k5, b_all_lines := (fun_mk (st := s_all_lines) l5 c5 k5).binds (ps := ["net"]) (fun _ _ _ _ _ _ us hl => match us, hl with | [_], _ => rfl), f_exchanged := f6, d_exchanged := _, g_exchanged := PySem.W.mg_of X G a6, F_exchanged := fun_mk (st := s_exchanged) l6 c6 k6, b_exchanged := (fun_mk (st := s_exchanged) l6 c6 k6).binds (ps := ["tree", "exchange"]) (fun _ _ _ _ _ _ us hl => match us, hl with | [_, _], _ => rfl), f_fewest_steps := f7, d_fewest_steps := _, g_fewest_steps := PySem.W.mg_of X G a7, F_fewest_steps := fun_mk (st := s_fewest_steps) l7 c7 k7, b_fewest_steps := (fun_mk (st := s_fewest_steps) l7 c7 k7).binds (ps := ["one", "other"]) (fun _ _ _ _ _ _ us hl => match us, hl with | [_, _], _ => rfl), f__law_crock := f8, d__law_crock := _, g__law_crock := PySem.W.mg_of X G a8, F__law_crock := fun_mk (st := s__law_crock) l8 c8 k8, b__law_crock := (fun_mk (st := s__law_crock) l8 c8 k8).binds (ps := ["script"]) (fun _ _ _ _ _ _ us hl => match us, hl with | [_], _ => rfl), f__law_tip := f9, d__law_tip := _, g__law_tip := PySem.W.mg_of X G a9, F__law_tip := fun_mk (st := s__law_tip) l9 c9 k9, b__law_tip := (fun_mk (st := s__law_tip) l9 c9 k9).binds (ps := ["crock", "many"]) (fun _ _ _ _ _ _ us hl => match us, hl with | [_, _], _ => rfl), f__law_same := f10, d__law_same := _, g__law_same := PySem.W.mg_of X G a10, F__law_same := fun_mk (st := s__law_same) l10 c10 k10, b__law_same := (fun_mk (st := s__law_same) l10 c10 k10).binds (ps := ["told", "due"]) (fun _ _ _ _ _ _ us hl => match us, hl with | [_, _], _ => rfl), f__law_way := f11, d__law_way := _, g__law_way := PySem.W.mg_of X G a11, F__law_way := fun_mk (st := s__law_way) l11 c11 k11, b__law_way := (fun_mk (st := s__law_way) l11 c11 k11).binds (ps := ["net", "tree", "one", "other"]) (fun _ _ _ _ _ _ us hl => match us, hl with | [_, _, _, _], _ => rfl), f__law_after := f12, d__law_after := _, g__law_after := PySem.W.mg_of X G a12, F__law_after := fun_mk (st := s__law_after) l12 c12 k12, b__law_after := (fun_mk (st := s__law_after) l12 c12 k12).binds (ps := ["state", "exchange"]) (fun _ _ _ _ _ _ us hl => match us, hl with | [_, _], _ => rfl), f__law_whole := f13, d__law_whole := _, g__law_whole := PySem.W.mg_of X G a13, F__law_whole := fun_mk (st := s__law_whole) l13 c13 k13, b__law_whole := (fun_mk (st := s__law_whole) l13 c13 k13).binds (ps := ["thing"]) (fun _ _ _ _ _ _ us hl => match us, hl with | [_], _ => rfl), f_are_integers := f14, d_are_integers := _, g_are_integers := PySem.W.mg_of X G a14, F_are_integers := fun_mk (st := s_are_integers) l14 c14 k14, b_are_integers := (fun_mk (st := s_are_integers) l14 c14 k14).binds (ps := ["thing"]) (fun _ _ _ _ _ _ us hl => match us, hl with | [_], _ => rfl), f_homes_by := f15, d_homes_by := _, g_homes_by := PySem.W.mg_of X G a15, F_homes_by := fun_mk (st := s_homes_by) l15 c15 k15, b_homes_by := (fun_mk (st := s_homes_by) l15 c15 k15).binds (ps := ["net", "lines"]) (fun _ _ _ _ _ _ us hl => match us, hl with | [_, _], _ => rfl), f_steps_from := f16, d_steps_from := _, g_steps_from := PySem.W.mg_of X G a16, F_steps_from := fun_mk (st := s_steps_from) l16 c16 k16, b_steps_from := (fun_mk (st := s_steps_from) l16 c16 k16).binds (ps := ["net", "lines", "place"]) (fun _ _ _ _ _ _ us hl => match us, hl with | [_, _, _], _ => rfl), f__law_mixed := f17, d__law_mixed := _, g__law_mixed := PySem.W.mg_of X G a17, F__law_mixed := fun_mk (st := s__law_mixed) l17 c17 k17, b__law_mixed := (fun_mk (st := s__law_mixed) l17 c17 k17).binds (ps := ["crock", "things"]) (fun _ _ _ _ _ _ us hl => match us, hl with | [_, _], _ => rfl), f__law_words := f18, d__law_words := _, g__law_words := PySem.W.mg_of X G a18, F__law_words := fun_mk (st := s__law_words) l18 c18 k18, b__law_words := (fun_mk (st := s__law_words) l18 c18 k18).binds (ps := ["crock", "many", "first"]) (fun _ _ _ _ _ _ us hl => match us, hl with | [_, _, _], _ => rfl), f__law_exchanges := f19, d__law_exchanges := _, g__law_exchanges := PySem.W.mg_of X G a19, F__law_exchanges := fun_mk (st := s__law_exchanges) l19 c19 k19, b__law_exchanges := (fun_mk (st := s__law_exchanges) l19 c19 k19).binds (ps := ["net", "tree"]) (fun _ _ _ _ _ _ us hl => match us, hl with | [_, _], _ => rfl), f__law_are_pairs := f20, d__law_are_pairs := _, g__law_are_pairs := PySem.W.mg_of X G a20, F__law_are_pairs := fun_mk (st := s__law_are_pairs) l20 c20 k20, b__law_are_pairs := (fun_mk (st := s__law_are_pairs) l20 c20 k20).binds (ps := ["thing"]) (fun _ _ _ _ _ _ us hl => match us, hl with | [_], _ => rfl), f_hangs_together := f21, d_hangs_together := _, g_hangs_together := PySem.W.mg_of X G a21, F_hangs_together := fun_mk (st := s_hangs_together) l21 c21 k21, b_hangs_together := (fun_mk (st := s_hangs_together) l21 c21 k21).binds (ps := ["net", "lines"]) (fun _ _ _ _ _ _ us hl => match us, hl with | [_, _], _ => rfl), f_way_along := f22, d_way_along := _, g_way_along := PySem.W.mg_of X G a22, F_way_along := fun_mk (st := s_way_along) l22 c22 k22, b_way_along := (fun_mk (st := s_way_along) l22 c22 k22).binds (ps := ["net", "lines", "one", "other"]) (fun _ _ _ _ _ _ us hl => match us, hl with | [_, _, _, _], _ => rfl), f__law_net := f23, d__law_net := _, g__law_net := PySem.W.mg_of X G a23, F__law_net := fun_mk (st := s__law_net) l23 c23 k23, b__law_net := (fun_mk (st := s__law_net) l23 c23 k23).binds (ps := ["crock", "places", "more"]) (fun _ _ _ _ _ _ us hl => match us, hl with | [_, _, _], _ => rfl), f__law_grown := f24, d__law_grown := _, g__law_grown := PySem.W.mg_of X G a24, F__law_grown := fun_mk (st := s__law_grown) l24 c24 k24, b__law_grown := (fun_mk (st := s__law_grown) l24 c24 k24).binds (ps := ["crock", "net", "wished"]) (fun _ _ _ _ _ _ us hl => match us, hl with | [_, _, _], _ => rfl), f__law_leads := f25, d__law_leads := _, g__law_leads := PySem.W.mg_of X G a25, F__law_leads := fun_mk (st := s__law_leads) l25 c25 k25, b__law_leads := (fun_mk (st := s__law_leads) l25 c25 k25).binds (ps := ["net", "one", "other", "thing"]) (fun _ _ _ _ _ _ us hl => match us, hl with | [_, _, _, _], _ => rfl), f__law_row := f26, d__law_row := _, g__law_row := PySem.W.mg_of X G a26, F__law_row := fun_mk (st := s__law_row) l26 c26 k26, b__law_row := (fun_mk (st := s__law_row) l26 c26 k26).binds (ps := ["crock", "net", "one", "other"]) (fun _ _ _ _ _ _ us hl => match us, hl with | [_, _, _, _], _ => rfl), f__law_bent := f27, d__law_bent := _, g__law_bent := PySem.W.mg_of X G a27, F__law_bent := fun_mk (st := s__law_bent) l27 c27 k27, b__law_bent := (fun_mk (st := s__law_bent) l27 c27 k27).binds (ps := ["crock", "net", "one", "row"]) (fun _ _ _ _ _ _ us hl => match us, hl with | [_, _, _, _], _ => rfl), f_need_together := f28, d_need_together := _, g_need_together := PySem.W.mg_of X G a28, F_need_together := fun_mk (st := s_need_together) l28 c28 k28, b_need_together := (fun_mk (st := s_need_together) l28 c28 k28).binds (ps := ["net"]) (fun _ _ _ _ _ _ us hl => match us, hl with | [_], _ => rfl), f_ring_of := f29, d_ring_of := _, g_ring_of := PySem.W.mg_of X G a29, F_ring_of := fun_mk (st := s_ring_of) l29 c29 k29, b_ring_of := (fun_mk (st := s_ring_of) l29 c29 k29).binds (ps := ["net", "tree", "line"]) (fun _ _ _ _ _ _ us hl => match us, hl with | [_, _, _], _ => rfl), f_exchanges_by := f30, d_exchanges_by := _, g_exchanges_by := PySem.W.mg_of X G a30, F_exchanges_by := fun_mk (st := s_exchanges_by) l30 c30 k30, b_exchanges_by := (fun_mk (st := s_exchanges_by) l30 c30 k30).binds (ps := ["net", "tree"]) (fun _ _ _ _ _ _ us hl => match us, hl with | [_, _], _ => rfl), f_exchanges_of := f31, d_exchanges_of := _, g_exchanges_of := PySem.W.mg_of X G a31, F_exchanges_of := fun_mk (st := s_exchanges_of) l31 c31 k31, b_exchanges_of := (fun_mk (st := s_exchanges_of) l31 c31 k31).binds (ps := ["net", "tree"]) (fun _ _ _ _ _ _ us hl => match us, hl with | [_, _], _ => rfl), f_is_exchange := f32, d_is_exchange := _, g_is_exchange := PySem.W.mg_of X G a32, F_is_exchange := fun_mk (st := s_is_exchange) l32 c32 k32, b_is_exchange := (fun_mk (st := s_is_exchange) l32 c32 k32).binds (ps := ["net", "tree", "thing"]) (fun _ _ _ _ _ _ us hl => match us, hl with | [_, _, _], _ => rfl), f_nearer_exchange := f33, d_nearer_exchange := _, g_nearer_exchange := PySem.W.mg_of X G a33, F_nearer_exchange := fun_mk (st := s_nearer_exchange) l33 c33 k33, b_nearer_exchange := (fun_mk (st := s_nearer_exchange) l33 c33 k33).binds (ps := ["net", "tree", "other"]) (fun _ _ _ _ _ _ us hl => match us, hl with | [_, _, _], _ => rfl), f_step_row := f34, d_step_row := _, g_step_row := PySem.W.mg_of X G a34, F_step_row := fun_mk (st := s_step_row) l34 c34 k34, b_step_row := (fun_mk (st := s_step_row) l34 c34 k34).binds (ps := ["net", "one", "other"]) (fun _ _ _ _ _ _ us hl => match us, hl with | [_, _, _], _ => rfl), f_is_step_row := f35, d_is_step_row := _, g_is_step_row := PySem.W.mg_of X G a35, F_is_step_row := fun_mk (st := s_is_step_row) l35 c35 k35, b_is_step_row := (fun_mk (st := s_is_step_row) l35 c35 k35).binds (ps := ["net", "one", "other", "thing"]) (fun _ _ _ _ _ _ us hl => match us, hl with | [_, _, _, _], _ => rfl), f_even_exchange := f36, d_even_exchange := _, g_even_exchange := PySem.W.mg_of X G a36, F_even_exchange := fun_mk (st := s_even_exchange) l36 c36 k36, b_even_exchange := (fun_mk (st := s_even_exchange) l36 c36 k36).binds (ps := ["net", "one", "other", "line"]) (fun _ _ _ _ _ _ us hl => match us, hl with | [_, _, _, _], _ => rfl), f__law_asked := f37, d__law_asked := _, g__law_asked := PySem.W.mg_of X G a37, F__law_asked := fun_mk (st := s__law_asked) l37 c37 k37, b__law_asked := (fun_mk (st := s__law_asked) l37 c37 k37).binds (ps := ["crock", "net", "one", "other"]) (fun _ _ _ _ _ _ us hl => match us, hl with | [_, _, _, _], _ => rfl), f__law_drawn := f38, d__law_drawn := _, g__law_drawn := PySem.W.mg_of X G a38, F__law_drawn := fun_mk (st := s__law_drawn) l38 c38 k38, b__law_drawn := (fun_mk (st := s__law_drawn) l38 c38 k38).binds (ps := ["crock", "places", "more"]) (fun _ _ _ _ _ _ us hl => match us, hl with | [_, _, _], _ => rfl), f__law_paths := f39, d__law_paths := _, g__law_paths := PySem.W.mg_of X G a39, F__law_paths := fun_mk (st := s__law_paths) l39 c39 k39, b__law_paths := (fun_mk (st := s__law_paths) l39 c39 k39).binds (ps := ["crock"]) (fun _ _ _ _ _ _ us hl => match us, hl with | [_], _ => rfl), f_law := fa, d_law := _, g_law := PySem.W.mg_of X G a40, F_law := fun_mk (st := s_law) l40 c40 k40, b_law := (fun_mk (st := s_law) l40 c40 k40).binds (ps := ["script"]) (fun _ _ _ _ _ _ us hl => match us, hl with | [_], _ => rfl), n_abs := PySem.W.mg_none_of X G n1, n_all := PySem.W.mg_none_of X G n2, n_bool := PySem.W.mg_none_of X G n3, n_enumerate := PySem.W.mg_none_of X G n4, n_int := PySem.W.mg_none_of X G n5, n_isinstance := PySem.W.mg_none_of X G n6, n_len := PySem.W.mg_none_of X G n7, n_list := PySem.W.mg_none_of X G n8, n_max := PySem.W.mg_none_of X G n9, n_min := PySem.W.mg_none_of X G n10, n_range := PySem.W.mg_none_of X G n11, n_set := PySem.W.mg_none_of X G n12, n_sorted := PySem.W.mg_none_of X G n13, n_str := PySem.W.mg_none_of X G n14, n_tuple := PySem.W.mg_none_of X G n15 }
  exact ⟨PySem.W.fnOf "law" "law" (defArgs s_law) (defBody s_law) (defScope s_law) .none kV40 dc40 pm40 an40 cd40 ct40, fun s v => .of_eq rfl, fun base _ _ => (ok_law (base := base) T).ok⟩
end
end G20
open PySem PySem.W PyProof.Rows
theorem PySem.Challenge.cw_keptasatree_k20_steps_holds : PySem.Challenge.rw_keptasatree_k20_steps.Holds := by
  w_on; o_law; k_head; (case hw => w_witness2)
  k_fill
  refine L2.walk_of (l := PySem.Challenge.rw_keptasatree_k20_steps) (n := 63) (k := 10) (x := "script") (CX := fun w => L2.CX PySem.Challenge.rw_keptasatree_k20_steps.prog w) (sp := fun w => AB.spM ⟨_, w⟩ 1 G20.m_law) rfl (by decide) rfl ⟨rfl, by decide, by decide⟩ (fun w h Y => PySem.W.kIn_of Y) ?F (fun w H a ns hl _ hS => AB.law_sp hS (G20.law_ok ns hl)) (fun w H s e s' z => AB.no_exc z)
  case F =>
    intro w mg fa h KX G hmg
    refine' G20.all_mk KX G hmg ?a1 ?l1 ?c1 ?k1 ?a2 ?l2 ?c2 ?k2 ?a3 ?l3 ?c3 ?k3 ?a4 ?l4 ?c4 ?k4 ?a5 ?l5 ?c5 ?k5 ?a6 ?l6 ?c6 ?k6 ?a7 ?l7 ?c7 ?k7 ?a8 ?l8 ?c8 ?k8 ?a9 ?l9 ?c9 ?k9 ?a10 ?l10 ?c10 ?k10 ?a11 ?l11 ?c11 ?k11 ?a12 ?l12 ?c12 ?k12 ?a13 ?l13 ?c13 ?k13 ?a14 ?l14 ?c14 ?k14 ?a15 ?l15 ?c15 ?k15 ?a16 ?l16 ?c16 ?k16 ?a17 ?l17 ?c17 ?k17 ?a18 ?l18 ?c18 ?k18 ?a19 ?l19 ?c19 ?k19 ?a20 ?l20 ?c20 ?k20 ?a21 ?l21 ?c21 ?k21 ?a22 ?l22 ?c22 ?k22 ?a23 ?l23 ?c23 ?k23 ?a24 ?l24 ?c24 ?k24 ?a25 ?l25 ?c25 ?k25 ?a26 ?l26 ?c26 ?k26 ?a27 ?l27 ?c27 ?k27 ?a28 ?l28 ?c28 ?k28 ?a29 ?l29 ?c29 ?k29 ?a30 ?l30 ?c30 ?k30 ?a31 ?l31 ?c31 ?k31 ?a32 ?l32 ?c32 ?k32 ?a33 ?l33 ?c33 ?k33 ?a34 ?l34 ?c34 ?k34 ?a35 ?l35 ?c35 ?k35 ?a36 ?l36 ?c36 ?k36 ?a37 ?l37 ?c37 ?k37 ?a38 ?l38 ?c38 ?k38 ?a39 ?l39 ?c39 ?k39 ?a40 ?l40 ?c40 ?k40 ?n1 ?n2 ?n3 ?n4 ?n5 ?n6 ?n7 ?n8 ?n9 ?n10 ?n11 ?n12 ?n13 ?n14 ?n15
    (case a1 => k_is)
    (case l1 => k_is)
    (case c1 => k_is)
    (case k1 => k_is)
    (case a2 => k_is)
    (case l2 => k_is)
    (case c2 => k_is)
    (case k2 => k_is)
    (case a3 => k_is)
    (case l3 => k_is)
    (case c3 => k_is)
    (case k3 => k_is)
    (case a4 => k_is)
    (case l4 => k_is)
    (case c4 => k_is)
    (case k4 => k_is)
    (case a5 => k_is)
    (case l5 => k_is)
    (case c5 => k_is)
    (case k5 => k_is)
    (case a6 => k_is)
    (case l6 => k_is)
    (case c6 => k_is)
    (case k6 => k_is)
    (case a7 => k_is)
    (case l7 => k_is)
    (case c7 => k_is)
    (case k7 => k_is)
    (case a8 => k_is)
    (case l8 => k_is)
    (case c8 => k_is)
    (case k8 => k_is)
    (case a9 => k_is)
    (case l9 => k_is)
    (case c9 => k_is)
    (case k9 => k_is)
    (case a10 => k_is)
    (case l10 => k_is)
    (case c10 => k_is)
    (case k10 => k_is)
    (case a11 => k_is)
    (case l11 => k_is)
    (case c11 => k_is)
    (case k11 => k_is)
    (case a12 => k_is)
    (case l12 => k_is)
    (case c12 => k_is)
    (case k12 => k_is)
    (case a13 => k_is)
    (case l13 => k_is)
    (case c13 => k_is)
    (case k13 => k_is)
    (case a14 => k_is)
    (case l14 => k_is)
    (case c14 => k_is)
    (case k14 => k_is)
    (case a15 => k_is)
    (case l15 => k_is)
    (case c15 => k_is)
    (case k15 => k_is)
    (case a16 => k_is)
    (case l16 => k_is)
    (case c16 => k_is)
    (case k16 => k_is)
    (case a17 => k_is)
    (case l17 => k_is)
    (case c17 => k_is)
    (case k17 => k_is)
    (case a18 => k_is)
    (case l18 => k_is)
    (case c18 => k_is)
    (case k18 => k_is)
    (case a19 => k_is)
    (case l19 => k_is)
    (case c19 => k_is)
    (case k19 => k_is)
    (case a20 => k_is)
    (case l20 => k_is)
    (case c20 => k_is)
    (case k20 => k_is)
    (case a21 => k_is)
    (case l21 => k_is)
    (case c21 => k_is)
    (case k21 => k_is)
    (case a22 => k_is)
    (case l22 => k_is)
    (case c22 => k_is)
    (case k22 => k_is)
    (case a23 => k_is)
    (case l23 => k_is)
    (case c23 => k_is)
    (case k23 => k_is)
    (case a24 => k_is)
    (case l24 => k_is)
    (case c24 => k_is)
    (case k24 => k_is)
    (case a25 => k_is)
    (case l25 => k_is)
    (case c25 => k_is)
    (case k25 => k_is)
    (case a26 => k_is)
    (case l26 => k_is)
    (case c26 => k_is)
    (case k26 => k_is)
    (case a27 => k_is)
    (case l27 => k_is)
    (case c27 => k_is)
    (case k27 => k_is)
    (case a28 => k_is)
    (case l28 => k_is)
    (case c28 => k_is)
    (case k28 => k_is)
    (case a29 => k_is)
    (case l29 => k_is)
    (case c29 => k_is)
    (case k29 => k_is)
    (case a30 => k_is)
    (case l30 => k_is)
    (case c30 => k_is)
    (case k30 => k_is)
    (case a31 => k_is)
    (case l31 => k_is)
    (case c31 => k_is)
    (case k31 => k_is)
    (case a32 => k_is)
    (case l32 => k_is)
    (case c32 => k_is)
    (case k32 => k_is)
    (case a33 => k_is)
    (case l33 => k_is)
    (case c33 => k_is)
    (case k33 => k_is)
    (case a34 => k_is)
    (case l34 => k_is)
    (case c34 => k_is)
    (case k34 => k_is)
    (case a35 => k_is)
    (case l35 => k_is)
    (case c35 => k_is)
    (case k35 => k_is)
    (case a36 => k_is)
    (case l36 => k_is)
    (case c36 => k_is)
    (case k36 => k_is)
    (case a37 => k_is)
    (case l37 => k_is)
    (case c37 => k_is)
    (case k37 => k_is)
    (case a38 => k_is)
    (case l38 => k_is)
    (case c38 => k_is)
    (case k38 => k_is)
    (case a39 => k_is)
    (case l39 => k_is)
    (case c39 => k_is)
    (case k39 => k_is)
    (case a40 => k_is)
    (case l40 => k_is)
    (case c40 => k_is)
    (case k40 => k_is)
    (case n1 => k_is)
    (case n2 => k_is)
    (case n3 => k_is)
    (case n4 => k_is)
    (case n5 => k_is)
    (case n6 => k_is)
    (case n7 => k_is)
    (case n8 => k_is)
    (case n9 => k_is)
    (case n10 => k_is)
    (case n11 => k_is)
    (case n12 => k_is)
    (case n13 => k_is)
    (case n14 => k_is)
    (case n15 => k_is)

