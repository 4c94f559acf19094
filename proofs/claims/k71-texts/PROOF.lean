import PyProof.Rows.All
import Wide.All
import OpenK.AllK
import Wide.FinOn
import HandS.ForMost
import HandS.ForExc
import HandS.Defaults
import HandS.TupAny
import HandS.Deep
import HandS.SetKeys
import HandS.TupLe
import HandS.Text
import HandS.Codes
import HandS.IsInst
import HandS.FStr
import HandS.RaiseMore
import KE.KUnpackStar
import HandS.ExcOwn
import HandS.Comp
import KE.GoesRaise
import PyProof.Rows.SeqMore
import HandS.More
import HandS.Iter
import HandS.Dict
import HandS.HeadHook1
import HandS.SetBool
import PyProof.ReprRoads
import PyProof.Rows.NestShow
import HandS.ExcIs
import HandS.Words
import PyProof.StrBlock2
import HandS.HeadHook2
import HandS.HeadHook3
import HandS.HeadHook4
import HandS.Ends
import HandS.EndBits
import HandS.Head0
import HandS.Head1
import HandS.Head2
import HandS.HeadEnd
import PySem.Challenge.RW_trueheads_k71_texts_written_and_read
set_option Elab.async false
set_option linter.all false
set_option maxRecDepth 100000
/-! A small evaluator over values with tuples as trees and a store of lists, dicts, instances; its relation to the hand layer's heaps. -/
namespace Ev
open PySem PySem.Spec PyProof.Rows L2

/-! ### places of the store -/
inductive Po where
  | H | O (p : Po) | I (p : Po)
  deriving DecidableEq
def Po.succ : Po → Po
  | .H => .O .H
  | .O p => .I p
  | .I p => .O p.succ
def Po.beq : Po → Po → Bool
  | .H, .H => true
  | .O p, .O q => p.beq q
  | .I p, .I q => p.beq q
  | _, _ => false
theorem Po.beq_iff : ∀ {p q : Po}, p.beq q = true ↔ p = q
  | .H, .H => by simp [Po.beq]
  | .O p, .O q => by simp [Po.beq, Po.beq_iff (p := p)]
  | .I p, .I q => by simp [Po.beq, Po.beq_iff (p := p)]
  | .H, .O _ => by simp [Po.beq]
  | .H, .I _ => by simp [Po.beq]
  | .O _, .H => by simp [Po.beq]
  | .O _, .I _ => by simp [Po.beq]
  | .I _, .H => by simp [Po.beq]
  | .I _, .O _ => by simp [Po.beq]
inductive Tr (α : Type) where
  | nil | node (l : Tr α) (v : Option α) (r : Tr α)
def Tr.get {α : Type} : Tr α → Po → Option α
  | .nil, _ => none
  | .node _ v _, .H => v
  | .node l _ _, .O p => l.get p
  | .node _ _ r, .I p => r.get p
def Tr.set {α : Type} (x : α) : Po → Tr α → Tr α
  | .H, .nil => .node .nil (some x) .nil
  | .H, .node l _ r => .node l (some x) r
  | .O p, .nil => .node (Tr.set x p .nil) none .nil
  | .O p, .node l v r => .node (Tr.set x p l) v r
  | .I p, .nil => .node .nil none (Tr.set x p .nil)
  | .I p, .node l v r => .node l v (Tr.set x p r)
theorem Tr.get_nil {α : Type} (p : Po) : (Tr.nil : Tr α).get p = none := by cases p <;> rfl
theorem Tr.gss {α : Type} (x : α) : ∀ (p : Po) (t : Tr α), (Tr.set x p t).get p = some x
  | .H, .nil => rfl
  | .H, .node _ _ _ => rfl
  | .O p, .nil => Tr.gss x p .nil
  | .O p, .node l _ _ => Tr.gss x p l
  | .I p, .nil => Tr.gss x p .nil
  | .I p, .node _ _ r => Tr.gss x p r
theorem Tr.gso {α : Type} (x : α) : ∀ (p q : Po) (t : Tr α), q ≠ p → (Tr.set x p t).get q = t.get q
  | .H, .H, _, h => absurd rfl h
  | .H, .O q, .nil, _ => by show (Tr.nil : Tr α).get q = _; rw [Tr.get_nil, Tr.get_nil]
  | .H, .I q, .nil, _ => by show (Tr.nil : Tr α).get q = _; rw [Tr.get_nil, Tr.get_nil]
  | .H, .O q, .node _ _ _, _ => rfl
  | .H, .I q, .node _ _ _, _ => rfl
  | .O p, .H, .nil, _ => rfl
  | .O p, .H, .node _ _ _, _ => rfl
  | .O p, .O q, .nil, h => by
    show (Tr.set x p .nil).get q = _
    rw [Tr.gso x p q .nil fun e => h (by rw [e]), Tr.get_nil, Tr.get_nil]
  | .O p, .O q, .node l _ _, h => Tr.gso x p q l fun e => h (by rw [e])
  | .O p, .I q, .nil, _ => by show (Tr.nil : Tr α).get q = _; rw [Tr.get_nil, Tr.get_nil]
  | .O p, .I q, .node _ _ _, _ => rfl
  | .I p, .H, .nil, _ => rfl
  | .I p, .H, .node _ _ _, _ => rfl
  | .I p, .I q, .nil, h => by
    show (Tr.set x p .nil).get q = _
    rw [Tr.gso x p q .nil fun e => h (by rw [e]), Tr.get_nil, Tr.get_nil]
  | .I p, .I q, .node _ _ r, h => Tr.gso x p q r fun e => h (by rw [e])
  | .I p, .O q, .nil, _ => by show (Tr.nil : Tr α).get q = _; rw [Tr.get_nil, Tr.get_nil]
  | .I p, .O q, .node _ _ _, _ => rfl

/-! ### values, objects, stores -/
inductive D where
  | non | bl (b : Bool) | int (i : Int) | str (x : List Nat) | tup (w : Bool) (xs : List D) | obj (p : Po) | fnr (j : Nat) | clr (c : Nat)
abbrev Ky := Sum Int (List Nat)
inductive Ob where
  /-- k: how many loops walk it now -/
  | lst (k : Nat) (xs : List D)
  /-- read alone -/
  | rol (xs : List D)
  /-- l: a loop walks it now -/
  | dic (l : Bool) (kvs : List (Ky × D))
  | dit (l : Bool) (kvs : List (List Ky × D))
  | ins (c : Nat) (fs : List (Nat × D))
  /-- an exception that was caught and is kept -/
  | exn (c : Nat) (fs : List (Nat × D))
structure Sto where
  tr : Tr Ob
  nx : Po
def Sto.get (S : Sto) (p : Po) : Option Ob := S.tr.get p
def Sto.put (S : Sto) (p : Po) (o : Ob) : Sto := ⟨Tr.set o p S.tr, S.nx⟩
def Sto.emp : Sto := ⟨.nil, .H⟩
theorem Sto.put_same {S : Sto} {p : Po} {o : Ob} : (S.put p o).get p = some o := Tr.gss o p S.tr
theorem Sto.put_ne {S : Sto} {p q : Po} {o : Ob} (h : q ≠ p) : (S.put p o).get q = S.get q := Tr.gso o p q S.tr h
theorem Sto.emp_get {p : Po} : Sto.emp.get p = none := Tr.get_nil p
/-- may it be written now? -/
def Ob.isRol : Ob → Bool
  | .rol _ => true
  | _ => false
def Ob.free : Ob → Bool
  | .lst 0 _ => true
  | .lst (_ + 1) _ => false
  | .rol _ => false
  | .dic l _ => !l
  | .dit l _ => !l
  | .ins _ _ => true
  | .exn _ _ => false

def toS (x : List Nat) : Str := ⟨x.toArray⟩
theorem toS_inj {x y : List Nat} (h : toS x = toS y) : x = y := by
  have := congrArg (fun s : Str => s.cps.toList) h
  simpa [toS] using this
def ky : Ky → Key
  | .inl i => .inl i
  | .inr x => .inr (toS x)
theorem ky_inj {a b : Ky} (h : ky a = ky b) : a = b := by
  cases a with
  | inl i => cases b with
    | inl j => injection h with h; rw [h]
    | inr y => cases h
  | inr x => cases b with
    | inl j => cases h
    | inr y => injection h with h; rw [toS_inj h]

/-- the tables of a law: its written part, classes, functions, fields by number -/
structure GT where
  K : PySem.W.Frag
  ca : Nat → Addr
  fa : Nat → Addr
  fn : Nat → Str
  nC : Nat
  nF : Nat
  finj : ∀ i j, i < nF → j < nF → fn i = fn j → i = j
  cls : ∀ c, c < nC → Cls K (ca c)
  noat : ∀ c f, c < nC → f < nF → NoAttr K (ca c) (fn f)

/-- a tuple stands at a; w: it is tracked there (not a thing of the written part) -/
def TupAt (K : PySem.W.Frag) (H : Hp) (w : Bool) (a : Addr) (vs : List V) : Prop := SqT K H a vs ∧ (w = true → H a = some (.tup vs))
section
variable (G : GT) (ρ : Po → Addr) (S : Sto) (H : Hp)
mutual
/-- a value here, a value of the layer -/
def RV : D → V → Prop
  | .non, v => v = .non
  | .bl b, v => v = .bl b
  | .int i, v => v = .int i
  | .str x, v => v = .str (toS x)
  | .tup w ds, v => ∃ a vs, v = .ref a ∧ TupAt G.K H w a vs ∧ RVs ds vs
  | .obj p, v => v = .ref (ρ p) ∧ ∃ o, S.get p = some o
  | .fnr j, v => v = .ref (G.fa j)
  | .clr c, v => v = .ref (G.ca c)
def RVs : List D → List V → Prop
  | [], vs => vs = []
  | d :: ds, vs => ∃ v r, vs = v :: r ∧ RV d v ∧ RVs ds r
end
def RK : List (Ky × D) → List (Key × V) → Prop
  | [], kvs => kvs = []
  | (k, d) :: r, kvs => ∃ v q, kvs = (ky k, v) :: q ∧ RV G ρ S H d v ∧ RK r q
def RKt : List (List Ky × D) → List (List Key × V) → Prop
  | [], kvs => kvs = []
  | (k, d) :: r, kvs => ∃ v q, kvs = (k.map ky, v) :: q ∧ RV G ρ S H d v ∧ RKt r q
def RF : List (Nat × D) → List (Str × V) → Prop
  | [], fs => fs = []
  | (f, d) :: r, fs => ∃ v q, fs = (G.fn f, v) :: q ∧ f < G.nF ∧ RV G ρ S H d v ∧ RF r q
/-- a list that is read alone: locked, or a thing of the written part -/
def SqR (K : PySem.W.Frag) (H : Hp) (a : Addr) (vs : List V) : Prop := (∃ ob, H a = some (.frz ob (.lst vs))) ∨
  ∃ (o : Obj) (its : Array Value) (n : Nat), K.lookup a = some o ∧ o.cls = .type "list" ∧ o.dict = none ∧ o.data = .seq its n ∧ its.size ≤ sizeLine ∧ Vals vs its.toList
theorem SqR.sq {K : PySem.W.Frag} {H : Hp} {a : Addr} {vs : List V} (h : SqR K H a vs) : SqL K H a vs := by
  rcases h with ⟨ob, h⟩ | h
  · exact .inl (.inr ⟨ob, h⟩)
  · exact .inr h
/-- an exception's dict -/
def XD (fs : List (Nat × D)) (d : Option Addr) : Prop :=
  (fs = [] ∧ d = none) ∨ ∃ dx fs', d = some dx ∧ H dx = some (.xd fs') ∧ RF G ρ S H fs fs' ∧ fs ≠ []
/-- at a stands an exception of the class cls, its dict d -/
def ExAt (a : Addr) (cls : Value) (d : Option Addr) (h : Heap) : Prop := ∃ oe vs, h.get? a = some oe ∧ Zc cls d oe ∧ oe.data = .fields vs
/-- an object here, what stands at a -/
def RO (a : Addr) : Ob → Prop
  | .lst _ xs => ∃ vs, H a = some (.lst vs) ∧ RVs G ρ S H xs vs
  | .rol xs => ∃ vs, SqR G.K H a vs ∧ RVs G ρ S H xs vs
  | .dic l kvs => ∃ kv, RK G ρ S H kvs kv ∧ if l = true then ∃ o, H a = some (.frz o (.dK kv)) else H a = some (.dK kv)
  | .dit l kvs => ∃ kv, RKt G ρ S H kvs kv ∧ if l = true then ∃ o, H a = some (.frz o (.dT kv)) else H a = some (.dT kv)
  | .ins c fs => c < G.nC ∧ ∃ dx fs', H a = some (.ins (G.ca c) dx fs') ∧ RF G ρ S H fs fs'
  | .exn c fs => ∃ d, XD G ρ S H fs d ∧ H a = some (.ext (ExAt a (.ref (G.ca c)) d))
structure RS : Prop where
  ob : ∀ p o, S.get p = some o → RO G ρ S H (ρ p) o
  inj : ∀ p q o o', S.get p = some o → S.get q = some o' → o.isRol = false → o'.isRol = false → ρ p = ρ q → p = q
/-- the slots -/
def RE (env : List (Option D)) (σ : List (Option V)) : Prop := env.length = σ.length ∧ ∀ (i : Nat) (d : D), env[i]? = some (some d) → ∃ v : V, σ[i]? = some (some v) ∧ RV G ρ S H d v
end

/-- from one situation to a later one -/
structure Ext (ρ : Po → Addr) (S : Sto) (H : Hp) (ρ' : Po → Addr) (S' : Sto) (H' : Hp) : Prop where
  re : ∀ p o, S.get p = some o → ρ' p = ρ p
  dom : ∀ p o, S.get p = some o → ∃ o', S'.get p = some o'
  lk : ∀ p o, S.get p = some o → o.free = false → S'.get p = some o
  fr : ∀ a u, H a = some u → (∀ p o, S.get p = some o → o.free = true → ρ p ≠ a) → H' a = some u
  nw : ∀ p o, S.get p = none → S'.get p = some o → H (ρ' p) = none
  dm : ∀ a, H' a = none → H a = none

section
variable {G : GT} {ρ ρ' ρ'' : Po → Addr} {S S' S'' : Sto} {H H' H'' : Hp}
theorem Ext.refl : Ext ρ S H ρ S H := ⟨fun _ _ _ => rfl, fun _ o h => ⟨o, h⟩, fun _ _ h _ => h, fun _ _ h _ => h, fun _ _ h h' => (by rw [h] at h'; cases h'), fun _ h => h⟩
theorem Ext.trans (a : Ext ρ S H ρ' S' H') (b : Ext ρ' S' H' ρ'' S'' H'') : Ext ρ S H ρ'' S'' H'' := by
  refine ⟨fun p o h => ?_, fun p o h => ?_, fun p o h f => b.lk p o (a.lk p o h f) f, fun c u h n => ?_, fun p o h h' => ?_, fun c h => a.dm c (b.dm c h)⟩
  · obtain ⟨o', h'⟩ := a.dom p o h
    rw [b.re p o' h', a.re p o h]
  · obtain ⟨o', h'⟩ := a.dom p o h
    exact b.dom p o' h'
  · refine b.fr c u (a.fr c u h n) fun p o hp hf e => ?_
    cases q : S.get p with
    | none =>
      have := a.nw p o q hp
      rw [e, h] at this; cases this
    | some o0 =>
      cases f0 : o0.free with
      | true =>
        rw [a.re p o0 q] at e
        exact n p o0 q f0 e
      | false =>
        have := a.lk p o0 q f0
        rw [hp] at this; cases this
        rw [f0] at hf; cases hf
  · cases q : S'.get p with
    | none => exact a.dm _ (b.nw p o q h')
    | some o1 =>
      rw [b.re p o1 q]
      exact a.nw p o1 h q
/-- a free object stands at its place as what it is: neither a tuple nor a locked thing nor an exception's dict -/
theorem RO.not_tup {a : Addr} {o : Ob} (h : RO G ρ S H a o) (f : o.free = true) : (∀ xs, H a ≠ some (.tup xs)) ∧ (∀ ob u, H a ≠ some (.frz ob u)) ∧ ∀ fs, H a ≠ some (.xd fs) := by
  have go : ∀ u, H a = some u → (∀ xs, u ≠ .tup xs) → (∀ ob w, u ≠ .frz ob w) → (∀ fs, u ≠ .xd fs) → (∀ xs, H a ≠ some (.tup xs)) ∧ (∀ ob u, H a ≠ some (.frz ob u)) ∧ ∀ fs, H a ≠ some (.xd fs) := fun u e h1 h2 h3 => by
    rw [e]
    exact ⟨fun _ z => h1 _ (Option.some.inj z), fun _ _ z => h2 _ _ (Option.some.inj z), fun _ z => h3 _ (Option.some.inj z)⟩
  cases o with
  | lst k xs => obtain ⟨vs, e, _⟩ := h; exact go _ e (fun _ z => (by cases z)) (fun _ _ z => (by cases z)) (fun _ z => (by cases z))
  | rol xs => cases f
  | dic l kvs =>
    obtain ⟨kv, _, e⟩ := h
    cases l with
    | true => cases f
    | false =>
      rw [if_neg Bool.false_ne_true] at e
      exact go _ e (fun _ z => (by cases z)) (fun _ _ z => (by cases z)) (fun _ z => (by cases z))
  | dit l kvs =>
    obtain ⟨kv, _, e⟩ := h
    cases l with
    | true => cases f
    | false =>
      rw [if_neg Bool.false_ne_true] at e
      exact go _ e (fun _ z => (by cases z)) (fun _ _ z => (by cases z)) (fun _ z => (by cases z))
  | ins c fs => obtain ⟨_, dx, fs', e, _⟩ := h; exact go _ e (fun _ z => (by cases z)) (fun _ _ z => (by cases z)) (fun _ z => (by cases z))
  | exn c fs => cases f
theorem Ext.tup0 (E : Ext ρ S H ρ' S' H') (R : RS G ρ S H) {a : Addr} {vs : List V} (h : H a = some (.tup vs)) : H' a = some (.tup vs) :=
  E.fr a _ h fun p o hp hf e => ((R.ob p o hp).not_tup hf).1 vs (by rw [e]; exact h)
theorem Ext.tup (E : Ext ρ S H ρ' S' H') (R : RS G ρ S H) {w : Bool} {a : Addr} {vs : List V} (h : TupAt G.K H w a vs) : TupAt G.K H' w a vs := by
  refine ⟨?_, fun z => E.tup0 R (h.2 z)⟩
  rcases h.1 with (h | ⟨ob, h⟩) | h
  · exact .inl (.inl (E.fr a _ h fun p o hp hf e => ((R.ob p o hp).not_tup hf).1 vs (by rw [e]; exact h)))
  · exact .inl (.inr ⟨ob, E.fr a _ h fun p o hp hf e => ((R.ob p o hp).not_tup hf).2.1 _ _ (by rw [e]; exact h)⟩)
  · exact .inr h
mutual
theorem RV.ext (E : Ext ρ S H ρ' S' H') (R : RS G ρ S H) : ∀ {d : D} {v : V}, RV G ρ S H d v → RV G ρ' S' H' d v
  | .non, _, h => by simpa only [RV] using h
  | .bl _, _, h => by simpa only [RV] using h
  | .int _, _, h => by simpa only [RV] using h
  | .str _, _, h => by simpa only [RV] using h
  | .tup w ds, v, h => by
    simp only [RV] at h ⊢
    obtain ⟨a, vs, e, q, r⟩ := h
    exact ⟨a, vs, e, E.tup R q, RVs.ext E R r⟩
  | .obj p, v, h => by
    simp only [RV] at h ⊢
    obtain ⟨e, o, q⟩ := h
    exact ⟨by rw [E.re p o q]; exact e, E.dom p o q⟩
  | .fnr _, _, h => by simpa only [RV] using h
  | .clr _, _, h => by simpa only [RV] using h
theorem RVs.ext (E : Ext ρ S H ρ' S' H') (R : RS G ρ S H) : ∀ {ds : List D} {vs : List V}, RVs G ρ S H ds vs → RVs G ρ' S' H' ds vs
  | [], _, h => by simpa only [RVs] using h
  | d :: ds, vs, h => by
    simp only [RVs] at h ⊢
    obtain ⟨v, r, e, q, z⟩ := h
    exact ⟨v, r, e, RV.ext E R q, RVs.ext E R z⟩
end
theorem RE.ext (E : Ext ρ S H ρ' S' H') (R : RS G ρ S H) {env : List (Option D)} {σ : List (Option V)} (h : RE G ρ S H env σ) : RE G ρ' S' H' env σ :=
  ⟨h.1, fun i d e => let ⟨v, a, b⟩ := h.2 i d e; ⟨v, a, b.ext E R⟩⟩
theorem RE.set {env : List (Option D)} {σ : List (Option V)} (h : RE G ρ S H env σ) {i : Nat} {d : D} {v : V} (r : RV G ρ S H d v) : RE G ρ S H (env.set i (some d)) (σ.set i (some v)) := by
  refine ⟨by simp [h.1], fun j e he => ?_⟩
  by_cases hj : i = j
  · subst hj
    by_cases hl : i < env.length
    · rw [List.getElem?_set_self hl] at he
      cases he
      exact ⟨v, by rw [List.getElem?_set_self (by rw [← h.1]; exact hl)], r⟩
    · rw [List.getElem?_eq_none (by simpa using hl)] at he; cases he
  · rw [List.getElem?_set_ne hj] at he ⊢
    exact h.2 j e he
theorem RVs.length : ∀ {ds : List D} {vs : List V}, RVs G ρ S H ds vs → vs.length = ds.length
  | [], vs, h => by simp only [RVs] at h; rw [h]; rfl
  | d :: ds, vs, h => by
    simp only [RVs] at h
    obtain ⟨v, r, e, _, z⟩ := h
    rw [e, List.length_cons, List.length_cons, RVs.length z]
theorem RVs.get : ∀ {ds : List D} {vs : List V} {i : Nat} {d : D}, RVs G ρ S H ds vs → ds[i]? = some d → ∃ v, vs[i]? = some v ∧ RV G ρ S H d v
  | [], _, _, _, _, e => by simp at e
  | x :: ds, vs, i, d, h, e => by
    simp only [RVs] at h
    obtain ⟨v, r, rfl, q, z⟩ := h
    cases i with
    | zero => simp at e; subst e; exact ⟨v, by simp, q⟩
    | succ i => simpa using RVs.get z (by simpa using e)
theorem RVs.app : ∀ {ds es : List D} {vs ws : List V}, RVs G ρ S H ds vs → RVs G ρ S H es ws → RVs G ρ S H (ds ++ es) (vs ++ ws)
  | [], _, _, _, h, k => by simp only [RVs] at h; subst h; simpa using k
  | d :: ds, es, vs, ws, h, k => by
    simp only [RVs] at h
    obtain ⟨v, r, rfl, q, z⟩ := h
    simp only [List.cons_append, RVs]
    exact ⟨v, r ++ ws, rfl, q, RVs.app z k⟩
theorem RVs.one {d : D} {v : V} (h : RV G ρ S H d v) : RVs G ρ S H [d] [v] := by simp only [RVs]; exact ⟨v, [], rfl, h, rfl⟩
theorem RVs.nil : RVs G ρ S H [] [] := by simp only [RVs]
theorem RVs.cons {d : D} {v : V} {ds : List D} {vs : List V} (h : RV G ρ S H d v) (t : RVs G ρ S H ds vs) : RVs G ρ S H (d :: ds) (v :: vs) := by simp only [RVs]; exact ⟨v, vs, rfl, h, t⟩
theorem RVs.set {ds : List D} {vs : List V} {i : Nat} {d : D} {v : V} (h : RVs G ρ S H ds vs) (r : RV G ρ S H d v) : RVs G ρ S H (ds.set i d) (vs.set i v) := by
  induction ds generalizing vs i with
  | nil => simp only [RVs] at h; subst h; simp [RVs]
  | cons x ds ih =>
    simp only [RVs] at h
    obtain ⟨w, q, rfl, a, b⟩ := h
    cases i with
    | zero => exact RVs.cons r b
    | succ i => exact RVs.cons a (ih b)
theorem RVs.drop : ∀ {ds : List D} {vs : List V} (n : Nat), RVs G ρ S H ds vs → RVs G ρ S H (ds.drop n) (vs.drop n)
  | ds, vs, 0, h => h
  | [], vs, n + 1, h => by simp only [RVs] at h; subst h; simp [RVs]
  | d :: ds, vs, n + 1, h => by
    simp only [RVs] at h
    obtain ⟨v, r, rfl, _, z⟩ := h
    exact RVs.drop n z
theorem RVs.take : ∀ {ds : List D} {vs : List V} (n : Nat), RVs G ρ S H ds vs → RVs G ρ S H (ds.take n) (vs.take n)
  | ds, vs, 0, h => by simp [RVs]
  | [], vs, n + 1, h => by simp only [RVs] at h; subst h; simp [RVs]
  | d :: ds, vs, n + 1, h => by
    simp only [RVs] at h
    obtain ⟨v, r, rfl, q, z⟩ := h
    exact RVs.cons q (RVs.take n z)
end
end Ev
set_option Elab.async false
set_option linter.all false
set_option maxRecDepth 100000
namespace Ev
open PySem PySem.Spec PyProof.Rows L2
section
variable {G : GT} {ρ ρ' : Po → Addr} {S S' : Sto} {H H' : Hp}
theorem RK.ext (E : Ext ρ S H ρ' S' H') (R : RS G ρ S H) : ∀ {l : List (Ky × D)} {m : List (Key × V)}, RK G ρ S H l m → RK G ρ' S' H' l m
  | [], _, h => h
  | (k, d) :: r, m, h => by
    obtain ⟨v, q, e, a, b⟩ := h
    exact ⟨v, q, e, a.ext E R, RK.ext E R b⟩
theorem RKt.ext (E : Ext ρ S H ρ' S' H') (R : RS G ρ S H) : ∀ {l : List (List Ky × D)} {m : List (List Key × V)}, RKt G ρ S H l m → RKt G ρ' S' H' l m
  | [], _, h => h
  | (k, d) :: r, m, h => by
    obtain ⟨v, q, e, a, b⟩ := h
    exact ⟨v, q, e, a.ext E R, RKt.ext E R b⟩
theorem RF.ext (E : Ext ρ S H ρ' S' H') (R : RS G ρ S H) : ∀ {l : List (Nat × D)} {m : List (Str × V)}, RF G ρ S H l m → RF G ρ' S' H' l m
  | [], _, h => h
  | (k, d) :: r, m, h => by
    obtain ⟨v, q, e, f, a, b⟩ := h
    exact ⟨v, q, e, f, a.ext E R, RF.ext E R b⟩
theorem XD.ext (E : Ext ρ S H ρ' S' H') (R : RS G ρ S H) {fs : List (Nat × D)} {d : Option Addr} (h : XD G ρ S H fs d) : XD G ρ' S' H' fs d := by
  rcases h with h | ⟨dx, fs', e, q, r, n⟩
  · exact .inl h
  · exact .inr ⟨dx, fs', e, E.fr dx _ q (fun p o hp hf z => ((R.ob p o hp).not_tup hf).2.2 fs' (by rw [z]; exact q)), r.ext E R, n⟩
/-- an object that still stands is still what it was -/
theorem RO.ext (E : Ext ρ S H ρ' S' H') (R : RS G ρ S H) {a : Addr} {o : Ob} (h : RO G ρ S H a o) (k : ∀ u, H a = some u → H' a = some u) : RO G ρ' S' H' a o := by
  cases o with
  | lst n xs => obtain ⟨vs, e, r⟩ := h; exact ⟨vs, k _ e, r.ext E R⟩
  | rol xs =>
    obtain ⟨vs, e, r⟩ := h
    refine ⟨vs, ?_, r.ext E R⟩
    rcases e with ⟨ob, e⟩ | e
    · exact .inl ⟨ob, k _ e⟩
    · exact .inr e
  | dic l kvs =>
    obtain ⟨kv, r, e⟩ := h
    refine ⟨kv, r.ext E R, ?_⟩
    cases l with
    | true =>
      rw [if_pos rfl] at e ⊢
      obtain ⟨ob, e⟩ := e
      exact ⟨ob, k _ e⟩
    | false =>
      rw [if_neg Bool.false_ne_true] at e ⊢
      exact k _ e
  | dit l kvs =>
    obtain ⟨kv, r, e⟩ := h
    refine ⟨kv, r.ext E R, ?_⟩
    cases l with
    | true =>
      rw [if_pos rfl] at e ⊢
      obtain ⟨ob, e⟩ := e
      exact ⟨ob, k _ e⟩
    | false =>
      rw [if_neg Bool.false_ne_true] at e ⊢
      exact k _ e
  | ins c fs =>
    obtain ⟨hc, dx, fs', e, r⟩ := h
    exact ⟨hc, dx, fs', k _ e, r.ext E R⟩
  | exn c fs =>
    obtain ⟨d, x, e⟩ := h
    exact ⟨d, x.ext E R, k _ e⟩
theorem RO.some {a : Addr} {o : Ob} (h : RO G ρ S H a o) (f : o.isRol = false) : ∃ u, H a = some u := by
  cases o with
  | lst n xs => obtain ⟨vs, e, r⟩ := h; exact ⟨_, e⟩
  | rol xs => cases f
  | dic l kvs =>
    obtain ⟨kv, r, e⟩ := h
    cases l with
    | true => rw [if_pos rfl] at e; obtain ⟨ob, e⟩ := e; exact ⟨_, e⟩
    | false => rw [if_neg Bool.false_ne_true] at e; exact ⟨_, e⟩
  | dit l kvs =>
    obtain ⟨kv, r, e⟩ := h
    cases l with
    | true => rw [if_pos rfl] at e; obtain ⟨ob, e⟩ := e; exact ⟨_, e⟩
    | false => rw [if_neg Bool.false_ne_true] at e; exact ⟨_, e⟩
  | ins c fs => obtain ⟨_, dx, fs', e, r⟩ := h; exact ⟨_, e⟩
  | exn c fs => obtain ⟨d, _, e⟩ := h; exact ⟨_, e⟩

/-! ### the heap grows by what isn't in the store -/
/-- all that was tracked is as it was, the store too -/
theorem Ext.same (k : ∀ a u, H a = some u → H' a = some u) : Ext ρ S H ρ S H' := by
  refine ⟨fun _ _ _ => rfl, fun _ o h => ⟨o, h⟩, fun _ _ h _ => h, fun a u h _ => k a u h, fun p o h h' => (by rw [h] at h'; cases h'), fun a h => ?_⟩
  cases q : H a with
  | none => rfl
  | some u =>
    have := k a u q
    rw [h] at this; cases this
theorem RS.same (R : RS G ρ S H) (k : ∀ a u, H a = some u → H' a = some u) : RS G ρ S H' :=
  ⟨fun p o h => (R.ob p o h).ext (Ext.same k) R fun u e => k _ u e, R.inj⟩
theorem upd_keeps {a : Addr} {o : HO} (h : H a = none) : ∀ b u, H b = some u → upd H a o b = some u := fun b u e => by rw [upd_ne (ne_of_none e h)]; exact e
/-- a new tuple -/
theorem new_tup (R : RS G ρ S H) {a : Addr} {ds : List D} {vs : List V} (h : H a = none) (r : RVs G ρ S H ds vs) :
    Ext ρ S H ρ S (upd H a (.tup vs)) ∧ RS G ρ S (upd H a (.tup vs)) ∧ RV G ρ S (upd H a (.tup vs)) (.tup true ds) (.ref a) := by
  have E : Ext ρ S H ρ S (upd H a (.tup vs)) := Ext.same (upd_keeps h)
  refine ⟨E, R.same (upd_keeps h), ?_⟩
  simp only [RV]
  exact ⟨a, vs, rfl, ⟨.inl (.inl upd_same), fun _ => upd_same⟩, r.ext E R⟩

/-! ### a new object of the store -/
def upR (ρ : Po → Addr) (p : Po) (a : Addr) : Po → Addr := fun q => if q = p then a else ρ q
theorem upR_same {p : Po} {a : Addr} : upR ρ p a p = a := by unfold upR; rw [if_pos rfl]
theorem upR_ne {p q : Po} {a : Addr} (h : q ≠ p) : upR ρ p a q = ρ q := by unfold upR; rw [if_neg h]
def Sto.add (S : Sto) (o : Ob) : Sto := ⟨Tr.set o S.nx S.tr, S.nx.succ⟩
theorem Sto.add_same {o : Ob} : (S.add o).get S.nx = some o := Tr.gss o S.nx S.tr
theorem Sto.add_ne {o : Ob} {q : Po} (h : q ≠ S.nx) : (S.add o).get q = S.get q := Tr.gso o S.nx q S.tr h
theorem ne_of_get {p q : Po} {o : Ob} (h : S.get p = none) (h' : S.get q = some o) : q ≠ p := fun e => by rw [e, h] at h'; cases h'
/-- laid at a, where nothing stood; o may lean on itself -/
theorem new_ob (R : RS G ρ S H) {a : Addr} {o : Ob} (hn : S.get S.nx = none) (ha : H a = none) (k : ∀ b u, H b = some u → H' b = some u)
    (new : Ext ρ S H (upR ρ S.nx a) (S.add o) H' → RO G (upR ρ S.nx a) (S.add o) H' a o) :
    Ext ρ S H (upR ρ S.nx a) (S.add o) H' ∧ RS G (upR ρ S.nx a) (S.add o) H' ∧ RV G (upR ρ S.nx a) (S.add o) H' (.obj S.nx) (.ref a) := by
  have E : Ext ρ S H (upR ρ S.nx a) (S.add o) H' := by
    refine ⟨fun p o' h => upR_ne (ne_of_get hn h), fun p o' h => ⟨o', by rw [Sto.add_ne (ne_of_get hn h)]; exact h⟩, fun p o' h _ => by rw [Sto.add_ne (ne_of_get hn h)]; exact h, fun b u h _ => k b u h, fun p o' h h' => ?_, fun b h => ?_⟩
    · by_cases e : p = S.nx
      · subst e; rw [upR_same]; exact ha
      · rw [Sto.add_ne e, h] at h'; cases h'
    · cases q : H b with
      | none => rfl
      | some u => have := k b u q; rw [h] at this; cases this
  have off : ∀ q o', S.get q = some o' → o'.isRol = false → ρ q ≠ a := fun q o' h f e => by
    obtain ⟨u, z⟩ := (R.ob q o' h).some f
    rw [e, ha] at z; cases z
  refine ⟨E, ⟨fun p o' h => ?_, fun p q o1 o2 h1 h2 f1 f2 e => ?_⟩, ?_⟩
  · by_cases z : p = S.nx
    · subst z
      rw [Sto.add_same] at h
      cases h
      rw [upR_same]
      exact new E
    · rw [Sto.add_ne z] at h
      rw [upR_ne z]
      exact (R.ob p o' h).ext E R fun u e => k _ u e
  · by_cases z1 : p = S.nx
    · by_cases z2 : q = S.nx
      · rw [z1, z2]
      · rw [Sto.add_ne z2] at h2
        rw [z1, upR_same, upR_ne z2] at e
        exact absurd e.symm (off q o2 h2 f2)
    · rw [Sto.add_ne z1] at h1
      by_cases z2 : q = S.nx
      · rw [z2, upR_same, upR_ne z1] at e
        exact absurd e (off p o1 h1 f1)
      · rw [Sto.add_ne z2] at h2
        rw [upR_ne z1, upR_ne z2] at e
        exact R.inj p q o1 o2 h1 h2 f1 f2 e
  · simp only [RV]
    exact ⟨by rw [upR_same], o, Sto.add_same⟩
/-- the free object at p becomes another one; what stands elsewhere stands -/
theorem wr_ob (R : RS G ρ S H) {p : Po} {o o' : Ob} (hp : S.get p = some o) (f : o.free = true) (f' : o'.isRol = false) (ha : ∃ u, H' (ρ p) = some u) (k : ∀ b u, b ≠ ρ p → H b = some u → H' b = some u)
    (new : Ext ρ S H ρ (S.put p o') H' → RO G ρ (S.put p o') H' (ρ p) o') : Ext ρ S H ρ (S.put p o') H' ∧ RS G ρ (S.put p o') H' := by
  have fr : o.isRol = false := by cases o <;> first | rfl | cases f
  have E : Ext ρ S H ρ (S.put p o') H' := by
    refine ⟨fun _ _ _ => rfl, fun q o1 h => ?_, fun q o1 h f1 => ?_, fun b u h n => k b u (fun e => n p o hp f e.symm) h, fun q o1 h h1 => ?_, fun b h => ?_⟩
    · by_cases e : q = p
      · subst e; exact ⟨o', Sto.put_same⟩
      · exact ⟨o1, by rw [Sto.put_ne e]; exact h⟩
    · have e : q ≠ p := fun e => by rw [e, hp] at h; cases h; rw [f] at f1; cases f1
      rw [Sto.put_ne e]; exact h
    · have e : q ≠ p := fun e => by rw [e, hp] at h; cases h
      rw [Sto.put_ne e, h] at h1; cases h1
    · by_cases e : b = ρ p
      · subst e; obtain ⟨u, z⟩ := ha; rw [h] at z; cases z
      · cases q : H b with
        | none => rfl
        | some u => have := k b u e q; rw [h] at this; cases this
  refine ⟨E, ⟨fun q o1 h => ?_, fun q r o1 o2 h1 h2 f1 f2 e => ?_⟩⟩
  · by_cases e : q = p
    · subst e
      rw [Sto.put_same] at h
      cases h
      exact new E
    · rw [Sto.put_ne e] at h
      have r1 := R.ob q o1 h
      cases g : o1.isRol with
      | false => exact r1.ext E R fun u z => k _ u (fun w => e (R.inj q p o1 o h hp g fr w)) z
      | true =>
        cases o1 with
        | rol xs =>
          obtain ⟨vs, z, r2⟩ := r1
          refine ⟨vs, ?_, r2.ext E R⟩
          rcases z with ⟨ob, z⟩ | z
          · exact .inl ⟨ob, k _ _ (fun w => ((R.ob p o hp).not_tup f).2.1 _ _ (by rw [← w]; exact z)) z⟩
          · exact .inr z
        | _ => cases g
  · have old : ∀ x y, (S.put p o').get x = some y → y.isRol = false → ∃ y', S.get x = some y' ∧ y'.isRol = false := fun x y h g => by
      by_cases e : x = p
      · subst e; exact ⟨o, hp, fr⟩
      · rw [Sto.put_ne e] at h; exact ⟨y, h, g⟩
    obtain ⟨y1, g1, k1⟩ := old q o1 h1 f1
    obtain ⟨y2, g2, k2⟩ := old r o2 h2 f2
    exact R.inj q r y1 y2 g1 g2 k1 k2 e
theorem upd_some {a : Addr} {o : HO} : ∃ u, upd H a o a = some u := ⟨o, upd_same⟩
theorem upd_else {a : Addr} {o : HO} : ∀ b u, b ≠ a → H b = some u → upd H a o b = some u := fun b u n e => by rw [upd_ne n]; exact e
end
end Ev
set_option Elab.async false
set_option linter.all false
set_option maxRecDepth 100000
namespace Ev
open PySem PySem.Spec PyProof.Rows L2
/-! ### results -/
inductive Rs (α : Type) where
  | ok (a : α) (S : Sto) | ex (c : Nat) (fs : List (Nat × D)) (S : Sto) | no
abbrev Slots := List (Option D)
abbrev Cal := Nat → List D → Sto → Rs D
abbrev Ev := Cal → Slots → Sto → Rs D
abbrev Tv := Cal → Slots → Sto → Rs Bool
abbrev Av := Cal → Slots → Sto → Rs (List D)
inductive Rt where
  | nx (env : Slots) (S : Sto) | rt (d : D) (S : Sto) | bk (env : Slots) (S : Sto) | ct (env : Slots) (S : Sto) | ex (c : Nat) (fs : List (Nat × D)) (env : Slots) (S : Sto) | no
abbrev Sv := Cal → Slots → Sto → Rt
def Rs.bind {α β : Type} (r : Rs α) (f : α → Sto → Rs β) : Rs β := match r with
  | .ok a S => f a S
  | .ex c fs S => .ex c fs S
  | .no => .no
/-- what is wished of an exception: its class, its dict, the slots, the heap -/
abbrev WX' := Value → Option Addr → List (Option V) → Hp → Prop
def exP (G : GT) (W : WX') (σ : List (Option V)) (ρ : Po → Addr) (S : Sto) (H : Hp) (c : Nat) (fs : List (Nat × D)) (S' : Sto) : Prop :=
  ∀ ρ' H' d, Ext ρ S H ρ' S' H' → RS G ρ' S' H' → XD G ρ' S' H' fs d → W (.ref (G.ca c)) d σ H'
section
variable (G : GT) (W : WX') (c : Cal)
/-- a result of an expression, from the situation ρ S H -/
def PE1 {α : Type} (Rel : (Po → Addr) → Sto → Hp → α → Prop) (σ : List (Option V)) (ρ : Po → Addr) (S : Sto) (H : Hp) : Rs α → Prop
  | .ok a S' => ∀ ρ' H', Ext ρ S H ρ' S' H' → RS G ρ' S' H' → Rel ρ' S' H' a
  | .ex k fs S' => exP G W σ ρ S H k fs S'
  | .no => False
def VRel (Q : VK) : (Po → Addr) → Sto → Hp → D → Prop := fun ρ S H d => ∀ x, RV G ρ S H d x → Q x H
def BRel (Q : Bool → Hp → Prop) : (Po → Addr) → Sto → Hp → Bool → Prop := fun _ _ H b => Q b H
def LRel (Q : List V → Hp → Prop) : (Po → Addr) → Sto → Hp → List D → Prop := fun ρ S H ds => ∀ xs, RVs G ρ S H ds xs → Q xs H
def tE (v : Ev) : TE := fun σ H Q => ∃ ρ S env, RS G ρ S H ∧ RE G ρ S H env σ ∧ PE1 G W (VRel G Q) σ ρ S H (v c env S)
def tT (v : Tv) : TT := fun σ H Q => ∃ ρ S env, RS G ρ S H ∧ RE G ρ S H env σ ∧ PE1 G W (BRel Q) σ ρ S H (v c env S)
def tA (v : Av) : TA := fun σ H Q => ∃ ρ S env, RS G ρ S H ∧ RE G ρ S H env σ ∧ PE1 G W (LRel G Q) σ ρ S H (v c env S)
def PS1 (D' : Ends) (ρ : Po → Addr) (S : Sto) (H : Hp) : Rt → Prop
  | .nx env S' => ∀ ρ' H' σ, Ext ρ S H ρ' S' H' → RS G ρ' S' H' → RE G ρ' S' H' env σ → D'.nx σ H'
  | .bk env S' => ∀ ρ' H' σ, Ext ρ S H ρ' S' H' → RS G ρ' S' H' → RE G ρ' S' H' env σ → D'.bk σ H'
  | .ct env S' => ∀ ρ' H' σ, Ext ρ S H ρ' S' H' → RS G ρ' S' H' → RE G ρ' S' H' env σ → D'.ct σ H'
  | .rt d S' => ∀ ρ' H' x, Ext ρ S H ρ' S' H' → RS G ρ' S' H' → RV G ρ' S' H' d x → D'.rt x H'
  | .ex k fs env S' => ∀ σ ρ' H' d, Ext ρ S H ρ' S' H' → RS G ρ' S' H' → RE G ρ' S' H' env σ → XD G ρ' S' H' fs d → W (.ref (G.ca k)) d σ H'
  | .no => False
def tS (s : Sv) : TS := fun D' σ H => ∃ ρ S env, RS G ρ S H ∧ RE G ρ S H env σ ∧ PS1 G W D' ρ S H (s c env S)
end
section
variable {G : GT} {W : WX'} {c : Cal} {ρ ρ' : Po → Addr} {S S' : Sto} {H H' : Hp} {σ : List (Option V)} {X : Cx} {env : Slots}
theorem PE1.later {α : Type} {Rel : (Po → Addr) → Sto → Hp → α → Prop} {r : Rs α} (E : Ext ρ S H ρ' S' H') (h : PE1 G W Rel σ ρ S H r) : PE1 G W Rel σ ρ' S' H' r := by
  cases r with
  | ok a S1 => exact fun ρ1 H1 E1 R1 => h ρ1 H1 (E.trans E1) R1
  | ex k fs S1 => exact fun ρ1 H1 d E1 R1 x => h ρ1 H1 d (E.trans E1) R1 x
  | no => exact h
theorem PS1.later {D' : Ends} {r : Rt} (E : Ext ρ S H ρ' S' H') (h : PS1 G W D' ρ S H r) : PS1 G W D' ρ' S' H' r := by
  cases r with
  | nx e S1 => exact fun ρ1 H1 s E1 => h ρ1 H1 s (E.trans E1)
  | bk e S1 => exact fun ρ1 H1 s E1 => h ρ1 H1 s (E.trans E1)
  | ct e S1 => exact fun ρ1 H1 s E1 => h ρ1 H1 s (E.trans E1)
  | rt d S1 => exact fun ρ1 H1 x E1 => h ρ1 H1 x (E.trans E1)
  | ex k fs e S1 => exact fun s ρ1 H1 d E1 => h s ρ1 H1 d (E.trans E1)
  | no => exact h
/-- the first part of a chain, for the wish of the rest -/
theorem PE1.bind {α β : Type} {Rel : (Po → Addr) → Sto → Hp → β → Prop} {Rel' : (Po → Addr) → Sto → Hp → α → Prop} {r : Rs α} {f : α → Sto → Rs β} (h : PE1 G W Rel σ ρ S H (r.bind f))
    (q : ∀ ρ1 S1 H1 a, Ext ρ S H ρ1 S1 H1 → RS G ρ1 S1 H1 → PE1 G W Rel σ ρ1 S1 H1 (f a S1) → Rel' ρ1 S1 H1 a) : PE1 G W Rel' σ ρ S H r := by
  cases r with
  | ok a S1 => exact fun ρ1 H1 E1 R1 => q ρ1 S1 H1 a E1 R1 (PE1.later E1 h)
  | ex k fs S1 => exact h
  | no => exact h
/-- weaker wishes -/
theorem pe_imp {e : Expr} {t t' : TE} (h : PE X e t) (k : ∀ σ H Q, t' σ H Q → t σ H Q) : PE X e t' := ⟨fun pins s σ H Q I z => h.run pins s σ H Q I (k σ H Q z)⟩
theorem pt_imp {e : Expr} {t t' : TT} (h : PT X e t) (k : ∀ σ H Q, t' σ H Q → t σ H Q) : PT X e t' := ⟨fun pins s σ H Q I z => h.run pins s σ H Q I (k σ H Q z)⟩
theorem pw_imp {e : Expr} {t t' : TT} (h : PW X e t) (k : ∀ σ H Q, t' σ H Q → t σ H Q) : PW X e t' := ⟨fun w pins s σ H Q I z => h.run w pins s σ H Q I (k σ H Q z)⟩
theorem pa_imp {es : List Expr} {t t' : TA} (h : PA X es t) (k : ∀ σ H Q, t' σ H Q → t σ H Q) : PA X es t' := ⟨fun pos pins s σ H Q I z => h.run pos pins s σ H Q I (k σ H Q z)⟩
theorem ps_imp {st : Stmt} {t t' : TS} (h : PS X st t) (k : ∀ D σ H, t' D σ H → t D σ H) : PS X st t' := ⟨fun pins s σ H D I z => h.run pins s σ H D I (k D σ H z)⟩
theorem pss_imp {st : List Stmt} {t t' : TS} (h : PSs X st t) (k : ∀ D σ H, t' D σ H → t D σ H) : PSs X st t' := ⟨fun pins s σ H D I z => h.run pins s σ H D I (k D σ H z)⟩

/-! ### names, constants -/
def eVar (i : Nat) : Ev := fun _ env S => match env[i]? with
  | some (some d) => .ok d S
  | _ => .no
theorem x_var (i : Nat) {x : Str} {pos : Pos} (hN : X.N[i]? = some x) (hv : Vis X.env.scope x) (hd : (x == ("__debug__" : Str)) = false := by decide) (hcd : (x == ("__classdict__" : Str)) = false := by decide) :
    PE X (.Name x pos) (tE G W c (eVar i)) := by
  refine pe_imp (pe_var hN hv hd hcd) fun σ H Q h => ?_
  obtain ⟨ρ, S, env, R, re, h⟩ := h
  unfold eVar at h
  split at h
  · rename_i d e
    obtain ⟨v, e1, r⟩ := re.2 i d e
    exact ⟨v, e1, h ρ H Ext.refl R v r⟩
  · exact h.elim
/-- a value that is the same everywhere -/
def eC (d : D) : Ev := fun _ _ S => .ok d S
theorem x_const {e : Expr} {d : D} {v : V} (h : PE X e (tC v)) (r : ∀ ρ S H, RV G ρ S H d v) : PE X e (tE G W c (eC d)) :=
  pe_imp h fun σ H Q ⟨ρ, S, env, R, _, h⟩ => h ρ H Ext.refl R v (r ρ S H)
theorem x_int {i : Int} {j pos} : PE X (.Constant (.int i) j pos) (tE G W c (eC (.int i))) := x_const pe_int fun _ _ _ => by simp only [RV]
theorem x_bl {b : Bool} {j pos} : PE X (.Constant (.bool b) j pos) (tE G W c (eC (.bl b))) := x_const pe_bl fun _ _ _ => by simp only [RV]
theorem x_non {j pos} : PE X (.Constant .none j pos) (tE G W c (eC .non)) := x_const pe_non fun _ _ _ => by simp only [RV]
theorem x_str {s : Str} {l : List Nat} {j pos} (h : s = toS l) : PE X (.Constant (.str s) j pos) (tE G W c (eC (.str l))) := x_const pe_str fun _ _ _ => by simp only [RV]; rw [h]
theorem x_gint {x : Str} {i : Int} {pos : Pos} (hg : Gl X x) (hm : ∃ u, X.mg x = some u ∧ RelV (.int i) u) (hd : (x == ("__debug__" : Str)) = false := by decide) : PE X (.Name x pos) (tE G W c (eC (.int i))) := by
  obtain ⟨u, e, r⟩ := hm
  exact x_const (pe_glob hg e r hd) fun _ _ _ => by simp only [RV]
theorem x_gval {x : Str} {d : D} {v : V} {pos : Pos} (hg : Gl X x) (hm : ∃ u, X.mg x = some u ∧ RelV v u) (r : ∀ ρ S H, RV G ρ S H d v) (hd : (x == ("__debug__" : Str)) = false := by decide) : PE X (.Name x pos) (tE G W c (eC d)) := by
  obtain ⟨u, e, r'⟩ := hm
  exact x_const (pe_glob hg e r' hd) r

/-! ### two-place operations by values -/
abbrev Op2 := D → D → Sto → Rs D
def eBin (op : Op2) (a b : Ev) : Ev := fun c env S => (a c env S).bind fun x S1 => (b c env S1).bind fun y S2 => op x y S2
/-- the rule r serves op -/
def Serves (G : GT) (W : WX') (r : R2) (op : Op2) : Prop := ∀ (σ : List (Option V)) ρ S H d e x y Q, RS G ρ S H → RV G ρ S H d x → RV G ρ S H e y → PE1 G W (VRel G Q) σ ρ S H (op d e S) → r x y H Q
theorem tBin {va vb : Ev} {op : Op2} {r : R2} (hs : Serves G W r op) {Q : VK} (h : tE G W c (eBin op va vb) σ H Q) : tOp r (tE G W c va) (tE G W c vb) σ H Q := by
  obtain ⟨ρ, S, env, R, re, h⟩ := h
  refine ⟨ρ, S, env, R, re, PE1.bind h fun ρ1 S1 H1 d E1 R1 h1 x rx => ?_⟩
  refine ⟨ρ1, S1, env, R1, re.ext E1 R, PE1.bind h1 fun ρ2 S2 H2 e E2 R2' h2 y ry => ?_⟩
  exact hs σ ρ2 S2 H2 d e x y Q R2' (rx.ext E2 R1) ry h2
theorem x_op {a b : Expr} {va vb : Ev} {o : Operator} {op : Op2} {r : R2} {pos : Pos} (ho : OpR X (binaryOp o) r) (hs : Serves G W r op) (ha : PE X a (tE G W c va)) (hb : PE X b (tE G W c vb)) :
    PE X (.BinOp a o b pos) (tE G W c (eBin op va vb)) := pe_imp (pe_op ho ha hb) fun _ _ _ h => tBin hs h
theorem x_cmp {a b : Expr} {va vb : Ev} {o : CmpOp} {op : Op2} {r : R2} {pos : Pos} (ho : OpR X (compareOp o) r) (hs : Serves G W r op) (ha : PE X a (tE G W c va)) (hb : PE X b (tE G W c vb)) (hm : behindInMarks o b = false) :
    PE X (.Compare a [o] [b] pos) (tE G W c (eBin op va vb)) := pe_imp (pe_cmpR ho ha hb hm) fun _ _ _ h => tBin hs h
theorem x_ix {a b : Expr} {va vb : Ev} {op : Op2} {r : R2} {pos : Pos} (ho : IxR X r) (hs : Serves G W r op) (ha : PE X a (tE G W c va)) (hb : PE X b (tE G W c vb)) (hp : PlainIx b) :
    PE X (.Subscript a b pos) (tE G W c (eBin op va vb)) := pe_imp (pe_ix ho ha hb hp) fun _ _ _ h => tBin hs h
/-! ### tests -/
/-- a truth as a test -/
def tOf (v : Ev) : Tv := fun c env S => (v c env S).bind fun d S1 => match d with
  | .bl b => .ok b S1
  | _ => .no
theorem tTestOf {v : Ev} {t : TE} (k : ∀ σ H Q, tE G W c v σ H Q → t σ H Q) {Q : Bool → Hp → Prop} (h : tT G W c (tOf v) σ H Q) : t σ H fun x H' => ∃ k, x = .bl k ∧ Q k H' := by
  refine k _ _ _ ?_
  obtain ⟨ρ, S, env, R, re, h⟩ := h
  refine ⟨ρ, S, env, R, re, PE1.bind h fun ρ1 S1 H1 d E1 R1 h1 x rx => ?_⟩
  cases d with
  | bl b =>
    simp only [RV] at rx
    exact ⟨b, rx, h1 ρ1 H1 Ext.refl R1⟩
  | _ => exact h1.elim
theorem x_tcmp {a b : Expr} {va vb : Ev} {o : CmpOp} {op : Op2} {r : R2} {pos : Pos} (ho : OpR X (compareOp o) r) (hs : Serves G W r op) (ha : PE X a (tE G W c va)) (hb : PE X b (tE G W c vb)) (hm : behindInMarks o b = false) :
    PT X (.Compare a [o] [b] pos) (tT G W c (tOf (eBin op va vb))) := pt_imp (pt_cmpR ho ha hb hm) fun _ _ _ h => tTestOf (fun _ _ _ h => tBin hs h) h
theorem x_tval {e : Expr} {v : Ev} (h : PE X e (tE G W c v)) (he : ∀ whole, isTrue e X.env whole = (do let v ← whole; standAt e.pos; holding [v] (truthy v)) := by intro _; rfl) : PT X e (tT G W c (tOf v)) :=
  pt_imp (pt_val h he) fun _ _ _ z => tTestOf (fun _ _ _ h => h) z
def tAnd' (a b : Tv) : Tv := fun c env S => (a c env S).bind fun k S1 => match k with
  | true => b c env S1
  | false => .ok false S1
def tOr' (a b : Tv) : Tv := fun c env S => (a c env S).bind fun k S1 => match k with
  | true => .ok true S1
  | false => b c env S1
def tNot' (a : Tv) : Tv := fun c env S => (a c env S).bind fun k S1 => .ok (!k) S1
theorem tBindT {a : Tv} {Rel : (Po → Addr) → Sto → Hp → Bool → Prop} {f : Bool → Sto → Rs Bool} {Q Q' : Bool → Hp → Prop} (h : tT G W c (fun c env S => (a c env S).bind fun k S1 => f k S1) σ H Q)
    (k : ∀ ρ1 S1 H1 env b, RS G ρ1 S1 H1 → RE G ρ1 S1 H1 env σ → PE1 G W (BRel Q) σ ρ1 S1 H1 (f b S1) → Q' b H1) : tT G W c a σ H Q' := by
  obtain ⟨ρ, S, env, R, re, h⟩ := h
  exact ⟨ρ, S, env, R, re, PE1.bind h fun ρ1 S1 H1 b E1 R1 h1 => k ρ1 S1 H1 env b R1 (re.ext E1 R) h1⟩
theorem x_tnot {a : Expr} {va : Tv} {pos : Pos} (ha : PT X a (tT G W c va)) : PT X (.UnaryOp .Not a pos) (tT G W c (tNot' va)) := by
  refine pt_imp (pt_not ha) fun σ H Q h => ?_
  obtain ⟨ρ, S, env, R, re, h⟩ := h
  exact ⟨ρ, S, env, R, re, PE1.bind h fun ρ1 S1 H1 b E1 R1 h1 => h1 ρ1 H1 Ext.refl R1⟩
theorem x_tand1 {a : Expr} {va : Tv} {pos : Pos} (ha : PT X a (tT G W c va)) : PW X (.BoolOp .And [a] pos) (tT G W c va) := pw_and1 ha
theorem x_tor1 {a : Expr} {va : Tv} {pos : Pos} (ha : PT X a (tT G W c va)) : PW X (.BoolOp .Or [a] pos) (tT G W c va) := pw_or1 ha
theorem x_tand {a b : Expr} {rest : List Expr} {va vb : Tv} {pos : Pos} (ha : PT X a (tT G W c va)) (hb : PW X (.BoolOp .And (b :: rest) pos) (tT G W c vb)) : PW X (.BoolOp .And (a :: b :: rest) pos) (tT G W c (tAnd' va vb)) := by
  refine pw_imp (pw_and ha hb) fun σ H Q h => ?_
  obtain ⟨ρ, S, env, R, re, h⟩ := h
  refine ⟨ρ, S, env, R, re, PE1.bind h fun ρ1 S1 H1 b E1 R1 h1 => ?_⟩
  cases b with
  | true => exact (by (try unfold BRel); (try dsimp only); rw [if_pos rfl]; exact ⟨ρ1, S1, env, R1, re.ext E1 R, h1⟩)
  | false => exact (by (try unfold BRel); (try dsimp only); rw [if_neg Bool.false_ne_true]; exact (h1 ρ1 H1 Ext.refl R1))
theorem x_tor {a b : Expr} {rest : List Expr} {va vb : Tv} {pos : Pos} (ha : PT X a (tT G W c va)) (hb : PW X (.BoolOp .Or (b :: rest) pos) (tT G W c vb)) : PW X (.BoolOp .Or (a :: b :: rest) pos) (tT G W c (tOr' va vb)) := by
  refine pw_imp (pw_or ha hb) fun σ H Q h => ?_
  obtain ⟨ρ, S, env, R, re, h⟩ := h
  refine ⟨ρ, S, env, R, re, PE1.bind h fun ρ1 S1 H1 b E1 R1 h1 => ?_⟩
  cases b with
  | false => exact (by (try unfold BRel); (try dsimp only); rw [if_neg Bool.false_ne_true]; exact ⟨ρ1, S1, env, R1, re.ext E1 R, h1⟩)
  | true => exact (by (try unfold BRel); (try dsimp only); rw [if_pos rfl]; exact (h1 ρ1 H1 Ext.refl R1))
theorem x_tpw {e : Expr} {v : Tv} (h : PW X e (tT G W c v)) : PT X e (tT G W c v) := h.pt
/-! ### and, or, not as values (truths) -/
def eAnd (a b : Ev) : Ev := fun c env S => (a c env S).bind fun d S1 => match d with
  | .bl true => b c env S1
  | .bl false => .ok (.bl false) S1
  | _ => .no
def eOr (a b : Ev) : Ev := fun c env S => (a c env S).bind fun d S1 => match d with
  | .bl true => .ok (.bl true) S1
  | .bl false => b c env S1
  | _ => .no
def eNot (a : Ev) : Ev := fun c env S => (a c env S).bind fun d S1 => match d with
  | .bl b => .ok (.bl (!b)) S1
  | _ => .no
theorem x_one {a : Expr} {op} {v : Ev} {pos : Pos} (h : PE X a (tE G W c v)) : PE X (.BoolOp op [a] pos) (tE G W c v) := pe_one h
theorem x_and {a b : Expr} {rest : List Expr} {va vb : Ev} {pos : Pos} (ha : PE X a (tE G W c va)) (hb : PE X (.BoolOp .And (b :: rest) pos) (tE G W c vb)) : PE X (.BoolOp .And (a :: b :: rest) pos) (tE G W c (eAnd va vb)) := by
  refine pe_imp (pe_and ha hb) fun σ H Q h => ?_
  obtain ⟨ρ, S, env, R, re, h⟩ := h
  refine ⟨ρ, S, env, R, re, PE1.bind h fun ρ1 S1 H1 d E1 R1 h1 x rx => ?_⟩
  cases d with
  | bl b =>
    simp only [RV] at rx
    refine ⟨b, rx, ?_⟩
    cases b with
    | true => exact (by (try unfold BRel); (try dsimp only); rw [if_pos rfl]; exact ⟨ρ1, S1, env, R1, re.ext E1 R, h1⟩)
    | false => exact (by (try unfold BRel); (try dsimp only); rw [if_neg Bool.false_ne_true]; exact (h1 ρ1 H1 Ext.refl R1 (.bl false) (by simp only [RV])))
  | _ => exact h1.elim
theorem x_or {a b : Expr} {rest : List Expr} {va vb : Ev} {pos : Pos} (ha : PE X a (tE G W c va)) (hb : PE X (.BoolOp .Or (b :: rest) pos) (tE G W c vb)) : PE X (.BoolOp .Or (a :: b :: rest) pos) (tE G W c (eOr va vb)) := by
  refine pe_imp (pe_or ha hb) fun σ H Q h => ?_
  obtain ⟨ρ, S, env, R, re, h⟩ := h
  refine ⟨ρ, S, env, R, re, PE1.bind h fun ρ1 S1 H1 d E1 R1 h1 x rx => ?_⟩
  cases d with
  | bl b =>
    simp only [RV] at rx
    refine ⟨b, rx, ?_⟩
    cases b with
    | false => exact (by (try unfold BRel); (try dsimp only); rw [if_neg Bool.false_ne_true]; exact ⟨ρ1, S1, env, R1, re.ext E1 R, h1⟩)
    | true => exact (by (try unfold BRel); (try dsimp only); rw [if_pos rfl]; exact (h1 ρ1 H1 Ext.refl R1 (.bl true) (by simp only [RV])))
  | _ => exact h1.elim
theorem x_not {a : Expr} {va : Ev} {pos : Pos} (ha : PE X a (tE G W c va)) : PE X (.UnaryOp .Not a pos) (tE G W c (eNot va)) := by
  refine pe_imp (pe_not ha) fun σ H Q h => ?_
  obtain ⟨ρ, S, env, R, re, h⟩ := h
  refine ⟨ρ, S, env, R, re, PE1.bind h fun ρ1 S1 H1 d E1 R1 h1 x rx => ?_⟩
  cases d with
  | bl b =>
    simp only [RV] at rx
    exact ⟨b, rx, h1 ρ1 H1 Ext.refl R1 (.bl (!b)) (by simp only [RV])⟩
  | _ => exact h1.elim
def eIf (t : Tv) (a b : Ev) : Ev := fun c env S => (t c env S).bind fun k S1 => match k with
  | true => a c env S1
  | false => b c env S1
theorem x_if {t a b : Expr} {vt : Tv} {va vb : Ev} {pos : Pos} (ht : PT X t (tT G W c vt)) (ha : PE X a (tE G W c va)) (hb : PE X b (tE G W c vb)) : PE X (.IfExp t a b pos) (tE G W c (eIf vt va vb)) := by
  refine pe_imp (pe_ifExp ht ha hb) fun σ H Q h => ?_
  obtain ⟨ρ, S, env, R, re, h⟩ := h
  refine ⟨ρ, S, env, R, re, PE1.bind h fun ρ1 S1 H1 b E1 R1 h1 => ?_⟩
  cases b with
  | true => exact (by (try unfold BRel); (try dsimp only); rw [if_pos rfl]; exact ⟨ρ1, S1, env, R1, re.ext E1 R, h1⟩)
  | false => exact (by (try unfold BRel); (try dsimp only); rw [if_neg Bool.false_ne_true]; exact ⟨ρ1, S1, env, R1, re.ext E1 R, h1⟩)
/-! ### argument lists, tuples, lists -/
def aNil : Av := fun _ _ S => .ok [] S
def aCons (a : Ev) (r : Av) : Av := fun c env S => (a c env S).bind fun d S1 => (r c env S1).bind fun ds S2 => .ok (d :: ds) S2
theorem x_anil : PA X [] (tA G W c aNil) := pa_imp pa_nil fun σ H Q ⟨ρ, S, env, R, _, h⟩ => h ρ H Ext.refl R [] RVs.nil
theorem x_acons {e : Expr} {es : List Expr} {v : Ev} {r : Av} (he : PE X e (tE G W c v)) (hr : PA X es (tA G W c r)) (hs : starEach (e :: es) X.env = (false, eval e X.env) :: starEach es X.env := by rfl) : PA X (e :: es) (tA G W c (aCons v r)) := by
  refine pa_imp (pa_cons he hr hs) fun σ H Q h => ?_
  obtain ⟨ρ, S, env, R, re, h⟩ := h
  refine ⟨ρ, S, env, R, re, PE1.bind h fun ρ1 S1 H1 d E1 R1 h1 x rx => ?_⟩
  refine ⟨ρ1, S1, env, R1, re.ext E1 R, PE1.bind h1 fun ρ2 S2 H2 ds E2 R2' h2 xs rxs => ?_⟩
  exact h2 ρ2 H2 Ext.refl R2' (x :: xs) (RVs.cons (rx.ext E2 R1) rxs)
def big : Nat := 16777216
def eTup (a : Av) : Ev := fun c env S => (a c env S).bind fun ds S1 => match Nat.ble ds.length big with
  | true => .ok (.tup true ds) S1
  | false => .no
theorem big_eq : big = sizeLine := sizeLine_eq.symm
theorem x_tup {es : List Expr} {k pos} {v : Av} (h : PA X es (tA G W c v)) : PE X (.Tuple es k pos) (tE G W c (eTup v)) := by
  refine pe_imp (pe_tup h) fun σ H Q h => ?_
  obtain ⟨ρ, S, env, R, re, h⟩ := h
  refine ⟨ρ, S, env, R, re, PE1.bind h fun ρ1 S1 H1 ds E1 R1 h1 xs rxs => ?_⟩
  cases hl : Nat.ble ds.length big with
  | false => rw [hl] at h1; exact h1.elim
  | true =>
    rw [hl] at h1
    have hl' := Nat.le_of_ble_eq_true hl
    rw [big_eq] at hl'
    refine ⟨by rw [rxs.length]; exact hl', fun p hp => ?_⟩
    obtain ⟨E, R2, r⟩ := new_tup R1 hp rxs
    exact h1 ρ1 _ E R2 _ r
/-- a new object of the store -/
def mkO (o : Ob) (S : Sto) : Rs D := match S.get S.nx with
  | none => .ok (.obj S.nx) (S.add o)
  | some _ => .no
theorem mkO_ok {o : Ob} {Rel : (Po → Addr) → Sto → Hp → D → Prop} (R : RS G ρ S H) (h : PE1 G W Rel σ ρ S H (mkO o S)) {a : Addr} (ha : H a = none) (k : ∀ b u, H b = some u → H' b = some u)
    (new : Ext ρ S H (upR ρ S.nx a) (S.add o) H' → RO G (upR ρ S.nx a) (S.add o) H' a o) : Rel (upR ρ S.nx a) (S.add o) H' (.obj S.nx) ∧ RV G (upR ρ S.nx a) (S.add o) H' (.obj S.nx) (.ref a) := by
  unfold mkO at h
  cases e : S.get S.nx with
  | some _ => rw [e] at h; exact h.elim
  | none =>
    rw [e] at h
    obtain ⟨E, R2, r⟩ := new_ob R e ha k new
    exact ⟨h _ _ E R2, r⟩
def eLst (a : Av) : Ev := fun c env S => (a c env S).bind fun ds S1 => match Nat.ble ds.length big with
  | true => mkO (.lst 0 ds) S1
  | false => .no
/-- a new list stands at a -/
theorem new_lst {ds : List D} {xs : List V} {Q : VK} (R : RS G ρ S H) (r : RVs G ρ S H ds xs) (h : PE1 G W (VRel G Q) σ ρ S H (mkO (.lst 0 ds) S)) : ∀ p, H p = none → Q (.ref p) (upd H p (.lst xs)) := fun p hp => by
  obtain ⟨q, rv⟩ := mkO_ok R h hp (upd_keeps hp) fun E => ⟨xs, upd_same, r.ext E R⟩
  exact q _ rv
theorem x_lst {es : List Expr} {pos} {v : Av} (h : PA X es (tA G W c v)) : PE X (.List es pos) (tE G W c (eLst v)) := by
  refine pe_imp (pe_lst h) fun σ H Q h => ?_
  obtain ⟨ρ, S, env, R, re, h⟩ := h
  refine ⟨ρ, S, env, R, re, PE1.bind h fun ρ1 S1 H1 ds E1 R1 h1 xs rxs => ?_⟩
  cases hl : Nat.ble ds.length big with
  | false => rw [hl] at h1; exact h1.elim
  | true =>
    rw [hl] at h1
    have hl' := Nat.le_of_ble_eq_true hl
    rw [big_eq] at hl'
    exact ⟨by rw [rxs.length]; exact hl', new_lst R1 rxs h1⟩
end
end Ev
set_option Elab.async false
set_option linter.all false
set_option maxRecDepth 100000
namespace Ev
open PySem PySem.Spec PyProof.Rows L2
section
variable {G : GT} {W : WX'} {c : Cal} {ρ ρ' : Po → Addr} {S S' : Sto} {H H' : Hp} {σ : List (Option V)} {X : Cx} {env : Slots}
theorem toS_len (x : List Nat) : (toS x).length = x.length := by simp [toS, Str.length]
theorem toS_app (x y : List Nat) : toS x ++ toS y = toS (x ++ y) := by
  show Str.append (toS x) (toS y) = _
  simp [toS, Str.append]
theorem toS_cps (x : List Nat) : (toS x).cps.toList = x := by simp [toS]
theorem fine {Q : VK} {d : D} {v : V} (R : RS G ρ S H) (h : PE1 G W (VRel G Q) σ ρ S H (.ok d S)) (r : RV G ρ S H d v) : Q v H := h ρ H Ext.refl R v r
/-! ### + - * // % ** -/
/-- is the sum of two tuples a tracked one? -/
def catW (w w' : Bool) (a b : List D) : Bool := match a, b with
  | [], _ => w'
  | _, [] => w
  | _, _ => true
def dAdd : Op2 := fun x y S => match x, y with
  | .int i, .int j => .ok (.int (i + j)) S
  | .str a, .str b => match Nat.ble (a.length + b.length) big with
    | true => .ok (.str (a ++ b)) S
    | false => .no
  | .tup w a, .tup w' b => match Nat.ble (a.length + b.length) big with
    | true => .ok (.tup (catW w w' a b) (a ++ b)) S
    | false => .no
  | .obj p, .obj q => match S.get p, S.get q with
    | some (.lst _ a), some (.lst _ b) => match Nat.ble (a.length + b.length) big with
      | true => mkO (.lst 0 (a ++ b)) S
      | false => .no
    | _, _ => .no
  | _, _ => .no
def rAdd' (K : PySem.W.Frag) : R2 := fun x y H Q => (rI0 (fun i j => .int (i + j)) x y H Q ∨ (∃ i j, x = .str i ∧ y = .str j ∧ i.length + j.length ≤ sizeLine ∧ Q (.str (i ++ j)) H)) ∨ (rCat x y H Q ∨ rCatA K x y H Q)
theorem op_add' : OpR X (binaryOp .Add) (rAdd' X.K) := OpR.or (OpR.or op_add op_add_str) (OpR.or op_cat op_catA)
theorem ble_line {n : Nat} (h : Nat.ble n big = true) : n ≤ sizeLine := by
  have := Nat.le_of_ble_eq_true h
  rw [big_eq] at this
  exact this
theorem dAdd_ok : Serves G W (rAdd' G.K) dAdd := by
  intro σ ρ S H d e x y Q R rx ry h
  unfold dAdd at h
  split at h
  · simp only [RV] at rx ry
    exact .inl (.inl ⟨_, _, rx, ry, fine R h (by simp only [RV])⟩)
  · rename_i a b
    simp only [RV] at rx ry
    split at h
    · rename_i hl
      exact .inl (.inr ⟨_, _, rx, ry, by rw [toS_len, toS_len]; exact ble_line hl, fine R h (by simp only [RV]; rw [toS_app])⟩)
    · exact h.elim
  · rename_i w a w' b
    simp only [RV] at rx ry
    obtain ⟨p, xs, rfl, q1, r1⟩ := rx
    obtain ⟨p2, ys, rfl, q2, r2⟩ := ry
    split at h
    · rename_i hl
      refine .inr (.inr ⟨p, p2, xs, ys, rfl, rfl, q1.1, q2.1, by rw [r1.length, r2.length]; exact ble_line hl, fun z => ?_, fun z1 z2 => ?_, fun z1 z2 t ht => ?_⟩)
      · subst z
        have ea : a = [] := by cases a with
          | nil => rfl
          | cons _ _ => have := r1.length; simp at this
        subst ea
        exact fine R h (by simp only [RV, List.nil_append, catW]; exact ⟨p2, ys, rfl, q2, r2⟩)
      · subst z2
        have eb : b = [] := by cases b with
          | nil => rfl
          | cons _ _ => have := r2.length; simp at this
        subst eb
        cases a with
        | nil => exact absurd (by have := r1.length; simpa using this) z1
        | cons a0 a1 => exact fine R h (by simp only [RV, List.append_nil, catW]; exact ⟨p, xs, rfl, q1, r1⟩)
      · obtain ⟨E, R2, r⟩ := new_tup R ht (r1.app r2)
        cases a with
        | nil => exact absurd (by have := r1.length; simpa using this) z1
        | cons a0 a1 => cases b with
          | nil => exact absurd (by have := r2.length; simpa using this) z2
          | cons b0 b1 => exact h ρ _ E R2 _ r
    · exact h.elim
  · rename_i p q
    split at h
    · rename_i k1 a k2 b e1 e2
      split at h
      · rename_i hl
        simp only [RV] at rx ry
        obtain ⟨rfl, _⟩ := rx
        obtain ⟨rfl, _⟩ := ry
        obtain ⟨vs, h1, r1⟩ := R.ob p _ e1
        obtain ⟨ws, h2, r2⟩ := R.ob q _ e2
        exact .inr (.inl ⟨_, _, vs, ws, rfl, rfl, h1, h2, by rw [r1.length, r2.length]; exact ble_line hl, new_lst R (r1.app r2) h⟩)
      · exact h.elim
    · exact h.elim
  · exact h.elim
theorem x_add {a b : Expr} {va vb : Ev} {pos : Pos} (hK : X.K = G.K) (ha : PE X a (tE G W c va)) (hb : PE X b (tE G W c vb)) : PE X (.BinOp a .Add b pos) (tE G W c (eBin dAdd va vb)) :=
  x_op op_add' (by rw [hK]; exact dAdd_ok) ha hb
/-- two whole numbers -/
def dInt (f : Int → Int → Rs D → Rs D) : Op2 := fun x y S => match x, y with
  | .int i, .int j => f i j .no
  | _, _ => .no
def dSub : Op2 := fun x y S => match x, y with
  | .int i, .int j => .ok (.int (i - j)) S
  | _, _ => .no
theorem dSub_ok : Serves G W (rI0 fun i j => .int (i - j)) dSub := by
  intro σ ρ S H d e x y Q R rx ry h
  unfold dSub at h
  split at h
  · simp only [RV] at rx ry
    exact ⟨_, _, rx, ry, fine R h (by simp only [RV])⟩
  · exact h.elim
theorem x_sub {a b : Expr} {va vb : Ev} {pos : Pos} (ha : PE X a (tE G W c va)) (hb : PE X b (tE G W c vb)) : PE X (.BinOp a .Sub b pos) (tE G W c (eBin dSub va vb)) := x_op op_sub dSub_ok ha hb
def small64 (i : Int) : Bool := Nat.blt i.natAbs 18446744073709551616
theorem small64_ok {i : Int} (h : small64 i = true) : -(2 ^ 64) < i ∧ i < 2 ^ 64 := by
  have : i.natAbs < 18446744073709551616 := Nat.le_of_ble_eq_true h
  omega
def dMul : Op2 := fun x y S => match x, y with
  | .int i, .int j => match small64 i || small64 j with
    | true => .ok (.int (i * j)) S
    | false => .no
  | .obj p, .int j => match S.get p with
    | some (.lst _ a) => match small64 j && Nat.ble j.natAbs big && Nat.ble (a.length * j.toNat) big with
      | true => mkO (.lst 0 (List.replicate j.toNat a).flatten) S
      | false => .no
    | _ => .no
  | _, _ => .no
theorem RVs.rep {ds : List D} {vs : List V} (r : RVs G ρ S H ds vs) : ∀ n, RVs G ρ S H (List.replicate n ds).flatten (List.replicate n vs).flatten
  | 0 => by simp [RVs]
  | n + 1 => by
    simp only [List.replicate_succ, List.flatten_cons]
    exact r.app (RVs.rep r n)
theorem dMul_ok : Serves G W (fun x y H Q => rI CMul (fun i j => .int (i * j)) x y H Q ∨ rRep x y H Q) dMul := by
  intro σ ρ S H d e x y Q R rx ry h
  unfold dMul at h
  split at h
  · simp only [RV] at rx ry
    split at h
    · rename_i hl
      refine .inl ⟨_, _, rx, ry, ?_, fine R h (by simp only [RV])⟩
      rcases Bool.or_eq_true_iff.mp hl with z | z
      · exact .inl (small64_ok z)
      · exact .inr (small64_ok z)
    · exact h.elim
  · rename_i p j
    split at h
    · rename_i k a e1
      split at h
      · rename_i hl
        simp only [RV] at rx ry
        obtain ⟨rfl, _⟩ := rx
        obtain ⟨vs, h1, r1⟩ := R.ob p _ e1
        obtain ⟨hl, h3⟩ := Bool.and_eq_true_iff.mp hl
        obtain ⟨h4, h5⟩ := Bool.and_eq_true_iff.mp hl
        have h5' := Nat.le_of_ble_eq_true h5
        have hb : big = 16777216 := rfl
        exact .inr ⟨_, _, vs, rfl, ry, h1, by omega, by omega, by rw [r1.length]; exact ble_line h3, new_lst R (r1.rep _) h⟩
      · exact h.elim
    · exact h.elim
  · exact h.elim
theorem x_mul {a b : Expr} {va vb : Ev} {pos : Pos} (ha : PE X a (tE G W c va)) (hb : PE X b (tE G W c vb)) : PE X (.BinOp a .Mult b pos) (tE G W c (eBin dMul va vb)) := x_op (OpR.or op_mul op_rep) dMul_ok ha hb
def dDiv : Op2 := fun x y S => match x, y with
  | .int i, .int j => match Nat.blt 0 j.natAbs && Nat.blt j.natAbs 1073741824 with
    | true => .ok (.int (i.fdiv j)) S
    | false => .no
  | _, _ => .no
theorem dDiv_ok : Serves G W (rI CDivN fun i j => .int (i.fdiv j)) dDiv := by
  intro σ ρ S H d e x y Q R rx ry h
  unfold dDiv at h
  split at h
  · simp only [RV] at rx ry
    split at h
    · rename_i hl
      obtain ⟨h1, h2⟩ := Bool.and_eq_true_iff.mp hl
      have h1' : 0 < _ := Nat.le_of_ble_eq_true h1
      have h2' : _ < 1073741824 := Nat.le_of_ble_eq_true h2
      exact ⟨_, _, rx, ry, ⟨by omega, h2'⟩, fine R h (by simp only [RV])⟩
    · exact h.elim
  · exact h.elim
theorem x_fdiv {a b : Expr} {va vb : Ev} {pos : Pos} (ha : PE X a (tE G W c va)) (hb : PE X b (tE G W c vb)) : PE X (.BinOp a .FloorDiv b pos) (tE G W c (eBin dDiv va vb)) := x_op op_fdivN dDiv_ok ha hb
def dMod : Op2 := fun x y S => match x, y with
  | .int i, .int j => match Nat.blt 0 j.natAbs with
    | true => .ok (.int (i.fmod j)) S
    | false => .no
  | _, _ => .no
theorem dMod_ok : Serves G W (rI (fun _ j => j ≠ 0) fun i j => .int (i.fmod j)) dMod := by
  intro σ ρ S H d e x y Q R rx ry h
  unfold dMod at h
  split at h
  · simp only [RV] at rx ry
    split at h
    · rename_i hl
      have h1' : 0 < _ := Nat.le_of_ble_eq_true hl
      exact ⟨_, _, rx, ry, (by omega), fine R h (by simp only [RV])⟩
    · exact h.elim
  · exact h.elim
theorem x_mod {a b : Expr} {va vb : Ev} {pos : Pos} (ha : PE X a (tE G W c va)) (hb : PE X b (tE G W c vb)) : PE X (.BinOp a .Mod b pos) (tE G W c (eBin dMod va vb)) := x_op op_modN dMod_ok ha hb
def dPow : Op2 := fun x y S => match x, y with
  | .int i, .int (.ofNat n) => match Nat.ble n 1000000 && small64 i with
    | true => .ok (.int (i ^ n)) S
    | false => .no
  | _, _ => .no
theorem dPow_ok : Serves G W (rI CPow fun i j => .int (i ^ j.toNat)) dPow := by
  intro σ ρ S H d e x y Q R rx ry h
  unfold dPow at h
  split at h
  · rename_i i n
    simp only [RV] at rx ry
    split at h
    · rename_i hl
      obtain ⟨h1, h2⟩ := Bool.and_eq_true_iff.mp hl
      have h1' := Nat.le_of_ble_eq_true h1
      have h2' : i.natAbs < 18446744073709551616 := Nat.le_of_ble_eq_true h2
      refine ⟨_, _, rx, ry, ⟨Int.natCast_nonneg n, ?_, h2'⟩, fine R h (by simp only [RV]; rfl)⟩
      show ((n : Nat) : Int) ≤ 1000000
      omega
    · exact h.elim
  · exact h.elim
theorem x_pow {a b : Expr} {va vb : Ev} {pos : Pos} (ha : PE X a (tE G W c va)) (hb : PE X b (tE G W c vb)) : PE X (.BinOp a .Pow b pos) (tE G W c (eBin dPow va vb)) := x_op op_pow dPow_ok ha hb
def eNeg (a : Ev) : Ev := fun c env S => (a c env S).bind fun d S1 => match d with
  | .int i => .ok (.int (-i)) S1
  | _ => .no
theorem x_neg {a : Expr} {va : Ev} {pos : Pos} (ha : PE X a (tE G W c va)) : PE X (.UnaryOp .USub a pos) (tE G W c (eNeg va)) := by
  refine pe_imp (pe_un un_neg ha) fun σ H Q h => ?_
  obtain ⟨ρ, S, env, R, re, h⟩ := h
  refine ⟨ρ, S, env, R, re, PE1.bind h fun ρ1 S1 H1 d E1 R1 h1 x rx => ?_⟩
  cases d with
  | int i =>
    simp only [RV] at rx
    exact ⟨i, rx, fine R1 h1 (by simp only [RV])⟩
  | _ => exact h1.elim
/-! ### order -/
def ilt : Int → Int → Bool
  | .ofNat a, .ofNat b => Nat.blt a b
  | .ofNat _, .negSucc _ => false
  | .negSucc _, .ofNat _ => true
  | .negSucc a, .negSucc b => Nat.blt b a
theorem ilt_eq (i j : Int) : ilt i j = decide (i < j) := by
  have key : ilt i j = true ↔ i < j := by
    cases i with
    | ofNat a => cases j with
      | ofNat b => show Nat.blt a b = true ↔ _; rw [Nat.blt_eq]; show a < b ↔ ((a : Int) < (b : Int)); omega
      | negSucc b => show false = true ↔ _; simp; omega
    | negSucc a => cases j with
      | ofNat b => show true = true ↔ _; simp; omega
      | negSucc b => show Nat.blt b a = true ↔ _; rw [Nat.blt_eq]; omega
  cases h : ilt i j with
  | true => exact (decide_eq_true (key.mp h)).symm
  | false =>
    refine (decide_eq_false fun z => ?_).symm
    rw [key.mpr z] at h; cases h
def llt : List Nat → List Nat → Bool
  | [], [] => false
  | [], _ :: _ => true
  | _ :: _, [] => false
  | a :: as, b :: bs => match Nat.blt a b with
    | true => true
    | false => match Nat.beq a b with
      | true => llt as bs
      | false => false
theorem llt_eq : ∀ x y : List Nat, llt x y = decide (x < y) := by
  have key : ∀ x y : List Nat, llt x y = true ↔ x < y := by
    intro x
    induction x with
    | nil => intro y; cases y <;> simp [llt]
    | cons a as ih =>
      intro y
      cases y with
      | nil => simp [llt]
      | cons b bs =>
        unfold llt
        rw [List.cons_lt_cons_iff]
        by_cases h1 : a < b
        · rw [show Nat.blt a b = true from by rw [Nat.blt_eq]; exact h1]; simp [h1]
        · rw [show Nat.blt a b = false from by rw [← Bool.not_eq_true, Nat.blt_eq]; exact h1]
          by_cases h2 : a = b
          · subst h2; simp [Nat.beq_refl, ih]
          · rw [show Nat.beq a b = false from by rw [← Bool.not_eq_true]; intro z; exact h2 (Nat.eq_of_beq_eq_true z)]
            simp [h1, h2]
  intro x y
  cases h : llt x y with
  | true => exact (decide_eq_true ((key x y).mp h)).symm
  | false =>
    refine (decide_eq_false fun z => ?_).symm
    rw [(key x y).mpr z] at h; cases h
def dLt : Op2 := fun x y S => match x, y with
  | .int i, .int j => .ok (.bl (ilt i j)) S
  | .str a, .str b => .ok (.bl (llt a b)) S
  | _, _ => .no
theorem dLt_ok : Serves G W (fun x y H Q => rI0 (fun i j => .bl (decide (i < j))) x y H Q ∨ (∃ i j, x = .str i ∧ y = .str j ∧ Q (.bl (decide (i.cps.toList < j.cps.toList))) H)) dLt := by
  intro σ ρ S H d e x y Q R rx ry h
  unfold dLt at h
  split at h
  · simp only [RV] at rx ry
    exact .inl ⟨_, _, rx, ry, fine R h (by simp only [RV]; rw [ilt_eq])⟩
  · simp only [RV] at rx ry
    exact .inr ⟨_, _, rx, ry, fine R h (by simp only [RV]; rw [llt_eq, toS_cps, toS_cps])⟩
  · exact h.elim
theorem op_lt' : OpR X (compareOp .Lt) (fun x y H Q => rI0 (fun i j => .bl (decide (i < j))) x y H Q ∨ (∃ i j, x = .str i ∧ y = .str j ∧ Q (.bl (decide (i.cps.toList < j.cps.toList))) H)) := OpR.or op_lt op_lt_str
def dCmpI (f : Int → Int → Bool) : Op2 := fun x y S => match x, y with
  | .int i, .int j => .ok (.bl (f i j)) S
  | _, _ => .no
theorem dCmpI_ok {f : Int → Int → Bool} {g : Int → Int → Bool} (e : ∀ i j, f i j = g i j) : Serves G W (rI0 fun i j => .bl (g i j)) (dCmpI f) := by
  intro σ ρ S H d e' x y Q R rx ry h
  unfold dCmpI at h
  split at h
  · simp only [RV] at rx ry
    exact ⟨_, _, rx, ry, fine R h (by simp only [RV]; rw [e])⟩
  · exact h.elim
def dLe : Op2 := dCmpI fun i j => !ilt j i
def dGt : Op2 := dCmpI fun i j => ilt j i
def dGe : Op2 := dCmpI fun i j => !ilt i j
theorem dLe_ok : Serves G W (rI0 fun i j => .bl (decide (i ≤ j))) dLe := dCmpI_ok fun i j => by rw [ilt_eq]; by_cases h : i ≤ j <;> simp [h] <;> omega
theorem dGt_ok : Serves G W (rI0 fun i j => .bl (decide (j < i))) dGt := dCmpI_ok fun i j => by rw [ilt_eq]
theorem dGe_ok : Serves G W (rI0 fun i j => .bl (decide (j ≤ i))) dGe := dCmpI_ok fun i j => by rw [ilt_eq]; by_cases h : j ≤ i <;> simp [h] <;> omega
end
end Ev
set_option Elab.async false
set_option linter.all false
set_option maxRecDepth 100000
namespace Ev
open PySem PySem.Spec PyProof.Rows L2
/-! ### data as trees -/
inductive Dt where
  | non | bl (b : Bool) | int (i : Int) | str (x : List Nat) | lst (xs : List Dt) | tup (xs : List Dt)
mutual
def Dt.pd : Dt → PyData
  | .non => .none
  | .bl b => .bool b
  | .int i => .int i
  | .str x => .str (toS x)
  | .lst xs => .list (Dt.pds xs)
  | .tup xs => .tuple (Dt.pds xs)
def Dt.pds : List Dt → List PyData
  | [] => []
  | x :: r => x.pd :: Dt.pds r
end
def ieq : Int → Int → Bool
  | .ofNat a, .ofNat b => Nat.beq a b
  | .negSucc a, .negSucc b => Nat.beq a b
  | _, _ => false
theorem ieq_eq (i j : Int) : ieq i j = (i == j) := by
  cases i with
  | ofNat a => cases j with
    | ofNat b =>
      show Nat.beq a b = _
      by_cases h : a = b
      · subst h; simp [Nat.beq_refl]
      · rw [show Nat.beq a b = false from by rw [← Bool.not_eq_true]; exact fun z => h (Nat.eq_of_beq_eq_true z)]
        exact (beq_eq_false_iff_ne.mpr (by intro e; injection e with e; exact h e)).symm
    | negSucc b => exact (beq_eq_false_iff_ne.mpr (by intro e; cases e)).symm
  | negSucc a => cases j with
    | ofNat b => exact (beq_eq_false_iff_ne.mpr (by intro e; cases e)).symm
    | negSucc b =>
      show Nat.beq a b = _
      by_cases h : a = b
      · subst h; simp [Nat.beq_refl]
      · rw [show Nat.beq a b = false from by rw [← Bool.not_eq_true]; exact fun z => h (Nat.eq_of_beq_eq_true z)]
        exact (beq_eq_false_iff_ne.mpr (by intro e; injection e with e; exact h e)).symm
def leq : List Nat → List Nat → Bool
  | [], [] => true
  | a :: as, b :: bs => match Nat.beq a b with
    | true => leq as bs
    | false => false
  | _, _ => false
theorem leq_iff : ∀ {x y : List Nat}, leq x y = true ↔ x = y
  | [], [] => by simp [leq]
  | [], _ :: _ => by simp [leq]
  | _ :: _, [] => by simp [leq]
  | a :: as, b :: bs => by
    unfold leq
    by_cases h : a = b
    · subst h; simp [Nat.beq_refl, leq_iff]
    · rw [show Nat.beq a b = false from by rw [← Bool.not_eq_true]; exact fun z => h (Nat.eq_of_beq_eq_true z)]
      simp [h]
theorem leq_eq (x y : List Nat) : leq x y = (toS x == toS y) := by
  by_cases h : x = y
  · subst h
    rw [leq_iff.mpr rfl]; simp
  · rw [show leq x y = false from by rw [← Bool.not_eq_true, leq_iff]; exact h]
    exact (beq_eq_false_iff_ne.mpr fun e => h (toS_inj e)).symm
def b2n (b : Bool) : Int := if b then 1 else 0
mutual
def Dt.eqv : Dt → Dt → Bool
  | .non, .non => true
  | .bl a, .bl b => a == b
  | .bl a, .int j => ieq (b2n a) j
  | .int i, .bl b => ieq i (b2n b)
  | .int i, .int j => ieq i j
  | .str x, .str y => leq x y
  | .lst xs, .lst ys => Dt.eqvs xs ys
  | .tup xs, .tup ys => Dt.eqvs xs ys
  | _, _ => false
def Dt.eqvs : List Dt → List Dt → Bool
  | [], [] => true
  | x :: xs, y :: ys => match x.eqv y with
    | true => Dt.eqvs xs ys
    | false => false
  | _, _ => false
end
mutual
theorem Dt.eqv_pd : ∀ a b : Dt, a.eqv b = PyData.eqv a.pd b.pd
  | .non, b => by cases b <;> simp [Dt.eqv, Dt.pd, PyData.eqv]
  | .bl a, b => by cases b <;> simp [Dt.eqv, Dt.pd, PyData.eqv, ieq_eq, b2n]
  | .int a, b => by cases b <;> simp [Dt.eqv, Dt.pd, PyData.eqv, ieq_eq, b2n]
  | .str a, b => by cases b <;> simp [Dt.eqv, Dt.pd, PyData.eqv, leq_eq]
  | .lst xs, b => by
    cases b with
    | lst ys => simp only [Dt.eqv, Dt.pd, PyData.eqv]; exact Dt.eqvs_pd xs ys
    | _ => simp [Dt.eqv, Dt.pd, PyData.eqv]
  | .tup xs, b => by
    cases b with
    | tup ys => simp only [Dt.eqv, Dt.pd, PyData.eqv]; exact Dt.eqvs_pd xs ys
    | _ => simp [Dt.eqv, Dt.pd, PyData.eqv]
theorem Dt.eqvs_pd : ∀ a b : List Dt, Dt.eqvs a b = PyData.eqvAll (Dt.pds a) (Dt.pds b)
  | [], [] => by simp [Dt.eqvs, Dt.pds, PyData.eqvAll]
  | [], _ :: _ => by simp [Dt.eqvs, Dt.pds, PyData.eqvAll]
  | _ :: _, [] => by simp [Dt.eqvs, Dt.pds, PyData.eqvAll]
  | x :: xs, y :: ys => by
    simp only [Dt.eqvs, Dt.pds, PyData.eqvAll, ← Dt.eqv_pd x y, ← Dt.eqvs_pd xs ys]
    cases x.eqv y <;> rfl
end
def mapO {α β : Type} (f : α → Option β) : List α → Option (List β)
  | [] => some []
  | x :: r => match f x with
    | some y => match mapO f r with
      | some ys => some (y :: ys)
      | none => none
    | none => none
/-- a value as data, n deep at most -/
def toDt (S : Sto) : Nat → D → Option Dt
  | _, .non => some .non
  | _, .bl b => some (.bl b)
  | _, .int i => some (.int i)
  | _, .str x => match x.all fun a => Nat.blt a 1114112 with
    | true => some (.str x)
    | false => none
  | n + 1, .tup _ ds => (mapO (toDt S n) ds).map .tup
  | n + 1, .obj p => match S.get p with
    | some (.lst _ xs) => (mapO (toDt S n) xs).map .lst
    | some (.rol xs) => (mapO (toDt S n) xs).map .lst
    | _ => none
  | _, _ => none
mutual
def Dt.dep : Dt → Nat
  | .lst xs => Dt.deps xs + 1
  | .tup xs => Dt.deps xs + 1
  | _ => 0
def Dt.deps : List Dt → Nat
  | [] => 0
  | x :: r => max x.dep (Dt.deps r)
end
section
variable {G : GT} {W : WX'} {c : Cal} {ρ ρ' : Po → Addr} {S S' : Sto} {H H' : Hp} {σ : List (Option V)} {X : Cx} {env : Slots}
theorem toDt_all {n : Nat} (ih : ∀ {d : D} {t : Dt} {v : V}, RV G ρ S H d v → toDt S n d = some t → Dp G.K H v t.pd ∧ t.pd.canLay0 = true ∧ t.pd.depth ≤ n) : ∀ {ds : List D} {ts : List Dt} {vs : List V}, RVs G ρ S H ds vs → mapO (toDt S n) ds = some ts →
    DpAll G.K H vs (Dt.pds ts) ∧ PyData.canLayAll0 (Dt.pds ts) = true ∧ PyData.depthAll (Dt.pds ts) ≤ n
  | [], ts, vs, r, e => by
    simp only [RVs] at r
    subst r
    simp only [mapO, Option.some.injEq] at e
    subst e
    simp only [Dt.pds]
    exact ⟨.nil, by simp [PyData.canLayAll0], by simp [PyData.depthAll]⟩
  | d :: ds, ts, vs, r, e => by
    simp only [RVs] at r
    obtain ⟨v, q, rfl, r1, r2⟩ := r
    unfold mapO at e
    split at e
    · rename_i y e1
      split at e
      · rename_i ys e2
        cases e
        obtain ⟨a1, a2, a3⟩ := ih r1 e1
        obtain ⟨b1, b2, b3⟩ := toDt_all ih r2 e2
        simp only [Dt.pds]
        refine ⟨.cons a1 b1, by simp [PyData.canLayAll0, a2, b2], ?_⟩
        simp only [PyData.depthAll]
        omega
      · cases e
    · cases e
theorem toDt_ok (R : RS G ρ S H) : ∀ {n : Nat} {d : D} {t : Dt} {v : V}, RV G ρ S H d v → toDt S n d = some t → Dp G.K H v t.pd ∧ t.pd.canLay0 = true ∧ t.pd.depth ≤ n := by
  have str_ok : ∀ {x : List Nat} {t : Dt}, (match x.all fun a => Nat.blt a 1114112 with | true => some (Dt.str x) | false => none) = some t → t = .str x ∧ (PyData.str (toS x)).canLay0 = true := by
    intro x t e
    split at e
    · rename_i h
      cases e
      refine ⟨rfl, ?_⟩
      simp only [PyData.canLay0]
      show (toS x).cps.all (· < 0x110000) = true
      simp only [toS, List.all_toArray]
      rw [List.all_eq_true] at h ⊢
      intro a ha
      have := h a ha
      rw [Nat.blt_eq] at this
      exact decide_eq_true this
    · cases e
  intro n
  induction n with
  | zero =>
    intro d t v r e
    cases d with
    | non => simp only [RV] at r; simp only [toDt, Option.some.injEq] at e; subst r e; simp only [Dt.pd]; exact ⟨.non, by simp [PyData.canLay0], by simp [PyData.depth]⟩
    | bl b => simp only [RV] at r; simp only [toDt, Option.some.injEq] at e; subst r e; simp only [Dt.pd]; exact ⟨.bl b, by simp [PyData.canLay0], by simp [PyData.depth]⟩
    | int i => simp only [RV] at r; simp only [toDt, Option.some.injEq] at e; subst r e; simp only [Dt.pd]; exact ⟨.int i, by simp [PyData.canLay0], by simp [PyData.depth]⟩
    | str x =>
      simp only [RV] at r; simp only [toDt] at e; subst r
      obtain ⟨rfl, h⟩ := str_ok e
      simp only [Dt.pd]
      exact ⟨.str _, h, by simp [PyData.depth]⟩
    | tup _ _ => simp [toDt] at e
    | obj _ => simp [toDt] at e
    | fnr _ => simp [toDt] at e
    | clr _ => simp [toDt] at e
  | succ n ih =>
    intro d t v r e
    cases d with
    | non => simp only [RV] at r; simp only [toDt, Option.some.injEq] at e; subst r e; simp only [Dt.pd]; exact ⟨.non, by simp [PyData.canLay0], by simp [PyData.depth]⟩
    | bl b => simp only [RV] at r; simp only [toDt, Option.some.injEq] at e; subst r e; simp only [Dt.pd]; exact ⟨.bl b, by simp [PyData.canLay0], by simp [PyData.depth]⟩
    | int i => simp only [RV] at r; simp only [toDt, Option.some.injEq] at e; subst r e; simp only [Dt.pd]; exact ⟨.int i, by simp [PyData.canLay0], by simp [PyData.depth]⟩
    | str x =>
      simp only [RV] at r; simp only [toDt] at e; subst r
      obtain ⟨rfl, h⟩ := str_ok e
      simp only [Dt.pd]
      exact ⟨.str _, h, by simp [PyData.depth]⟩
    | tup w ds =>
      simp only [RV] at r
      obtain ⟨a, vs, rfl, q, r⟩ := r
      simp only [toDt, Option.map_eq_some_iff] at e
      obtain ⟨ts, e, rfl⟩ := e
      obtain ⟨h1, h2, h3⟩ := toDt_all ih r e
      simp only [Dt.pd]
      exact ⟨.tup q.1 h1, by simp only [PyData.canLay0]; exact h2, by simp only [PyData.depth]; omega⟩
    | obj p =>
      simp only [RV] at r
      obtain ⟨rfl, o, ho⟩ := r
      have ro := R.ob p o ho
      simp only [toDt, ho] at e
      cases o with
      | lst k xs =>
        obtain ⟨vs, q, r⟩ := ro
        simp only [Option.map_eq_some_iff] at e
        obtain ⟨ts, e, rfl⟩ := e
        obtain ⟨h1, h2, h3⟩ := toDt_all ih r e
        simp only [Dt.pd]
        exact ⟨.lst (.inl (.inl q)) h1, by simp only [PyData.canLay0]; exact h2, by simp only [PyData.depth]; omega⟩
      | rol xs =>
        obtain ⟨vs, q, r⟩ := ro
        simp only [Option.map_eq_some_iff] at e
        obtain ⟨ts, e, rfl⟩ := e
        obtain ⟨h1, h2, h3⟩ := toDt_all ih r e
        simp only [Dt.pd]
        exact ⟨.lst q.sq h1, by simp only [PyData.canLay0]; exact h2, by simp only [PyData.depth]; omega⟩
      | dic _ _ => cases e
      | dit _ _ => cases e
      | ins _ _ => cases e
      | exn _ _ => cases e
    | fnr _ => simp [toDt] at e
    | clr _ => simp [toDt] at e
theorem toDt_shaped (R : RS G ρ S H) {d : D} {t : Dt} {v : V} (r : RV G ρ S H d v) (e : toDt S 60 d = some t) : Dp G.K H v t.pd ∧ SeqAt.shaped t.pd = true := by
  obtain ⟨h1, h2, h3⟩ := toDt_ok R r e
  refine ⟨h1, ?_⟩
  show (t.pd.canLay0 && decide (t.pd.depth ≤ 64)) = true
  rw [h2, Bool.true_and]
  exact decide_eq_true (by omega)
/-! ### == and != -/
/-- == of two values; the plain kinds ahead -/
def deq (S : Sto) : D → D → Option Bool
  | .int i, .int j => some (ieq i j)
  | .str a, .str b => some (leq a b)
  | .bl a, .bl b => some (a == b)
  | .non, .non => some true
  | .non, .int _ => some false
  | .non, .str _ => some false
  | .non, .bl _ => some false
  | .int _, .non => some false
  | .str _, .non => some false
  | .bl _, .non => some false
  | .int _, .str _ => some false
  | .str _, .int _ => some false
  | x, y => match toDt S 60 x with
    | some a => match toDt S 60 y with
      | some b => some (a.eqv b)
      | none => none
    | none => none
theorem deq_ok (R : RS G ρ S H) {d e : D} {x y : V} {b : Bool} (rx : RV G ρ S H d x) (ry : RV G ρ S H e y) (h : deq S d e = some b) :
    (scal x y = true ∧ decide (x = y) = b) ∨ ∃ a a', Dp G.K H x a ∧ Dp G.K H y a' ∧ SeqAt.shaped a = true ∧ SeqAt.shaped a' = true ∧ PyData.eqv a a' = b := by
  have gen : (match toDt S 60 d with | some a => (match toDt S 60 e with | some b => some (a.eqv b) | none => none) | none => none) = some b →
      ∃ a a', Dp G.K H x a ∧ Dp G.K H y a' ∧ SeqAt.shaped a = true ∧ SeqAt.shaped a' = true ∧ PyData.eqv a a' = b := by
    intro h
    split at h
    · rename_i a e1
      split at h
      · rename_i a' e2
        cases h
        obtain ⟨h1, h2⟩ := toDt_shaped R rx e1
        obtain ⟨h3, h4⟩ := toDt_shaped R ry e2
        exact ⟨_, _, h1, h3, h2, h4, (Dt.eqv_pd a a').symm⟩
      · cases h
    · cases h
  unfold deq at h
  split at h
  all_goals first
    | (exact .inr (gen h))
    | (simp only [RV] at rx ry
       subst rx ry
       cases h
       refine .inl ⟨rfl, ?_⟩
       first
         | rw [ieq_eq]; exact dec_int
         | rw [leq_eq]; exact dec_str
         | exact dec_bl
         | rfl
         | (exact decide_eq_false (fun z => nomatch z))
         | (exact decide_eq_true rfl))
def dEq : Op2 := fun x y S => match deq S x y with
  | some b => .ok (.bl b) S
  | none => .no
def dNe : Op2 := fun x y S => match deq S x y with
  | some b => .ok (.bl (!b)) S
  | none => .no
theorem dEq_ok : Serves G W (fun x y H Q => rEq x y H Q ∨ rEqD G.K x y H Q) dEq := by
  intro σ ρ S H d e x y Q R rx ry h
  unfold dEq at h
  split at h
  · rename_i b hb
    rcases deq_ok R rx ry hb with ⟨h1, h2⟩ | ⟨a, a', h1, h2, h3, h4, h5⟩
    · exact .inl ⟨h1, fine R h (by simp only [RV]; rw [h2])⟩
    · exact .inr ⟨a, a', h1, h2, h3, h4, fine R h (by simp only [RV]; rw [h5])⟩
  · exact h.elim
theorem dNe_ok : Serves G W (fun x y H Q => rNe x y H Q ∨ rNeD G.K x y H Q) dNe := by
  intro σ ρ S H d e x y Q R rx ry h
  unfold dNe at h
  split at h
  · rename_i b hb
    rcases deq_ok R rx ry hb with ⟨h1, h2⟩ | ⟨a, a', h1, h2, h3, h4, h5⟩
    · exact .inl ⟨h1, fine R h (by simp only [RV]; rw [h2])⟩
    · exact .inr ⟨a, a', h1, h2, h3, h4, fine R h (by simp only [RV]; rw [h5])⟩
  · exact h.elim
theorem op_eq' (hu : X.A.units + 64 < cLine) : OpR X (compareOp .Eq) (fun x y H Q => rEq x y H Q ∨ rEqD X.K x y H Q) := OpR.or op_eq (op_eqD hu)
theorem op_ne' (hu : X.A.units + 64 < cLine) : OpR X (compareOp .NotEq) (fun x y H Q => rNe x y H Q ∨ rNeD X.K x y H Q) := OpR.or op_ne (op_neD hu)
/-! ### is None, is a truth -/
def dIs : Op2 := fun x y S => match x, y with
  | .non, .non => .ok (.bl true) S
  | .bl a, .bl b => .ok (.bl (a == b)) S
  | _, .non => .ok (.bl false) S
  | _, _ => .no
end
end Ev
set_option Elab.async false
set_option linter.all false
set_option maxRecDepth 100000
namespace Ev
open PySem PySem.Spec PyProof.Rows L2
section
variable {G : GT} {W : WX'} {c : Cal} {ρ ρ' : Po → Addr} {S S' : Sto} {H H' : Hp} {σ : List (Option V)} {X : Cx} {env : Slots}
theorem dIs_ok : Serves G W (fun x y H Q => (y = .non ∧ Q (.bl (decide (x = .non))) H) ∨ ∃ a b, x = .bl a ∧ y = .bl b ∧ Q (.bl (decide (a = b))) H) dIs := by
  intro σ ρ S H d e x y Q R rx ry h
  unfold dIs at h
  split at h
  · simp only [RV] at rx ry
    subst rx ry
    exact .inl ⟨rfl, fine R h (by simp only [RV, decide_true])⟩
  · rename_i a b
    simp only [RV] at rx ry
    exact .inr ⟨a, b, rx, ry, fine R h (by simp only [RV]; cases a <;> cases b <;> rfl)⟩
  · rename_i hn
    simp only [RV] at ry
    subst ry
    refine .inl ⟨rfl, fine R h ?_⟩
    simp only [RV]
    have ne : x ≠ .non := by
      cases d <;> simp only [RV] at rx
      · exact absurd rfl hn
      all_goals first
        | (rw [rx]; intro z; cases z)
        | (obtain ⟨a, vs, e, _⟩ := rx; rw [e]; intro z; cases z)
        | (obtain ⟨e, _⟩ := rx; rw [e]; intro z; cases z)
    rw [decide_eq_false ne]
  · exact h.elim
def dIsNot : Op2 := fun x y S => (dIs x y S).bind fun d S1 => match d with
  | .bl b => .ok (.bl (!b)) S1
  | _ => .no
theorem dIsNot_ok : Serves G W (fun x y H Q => (y = .non ∧ Q (.bl (!decide (x = .non))) H) ∨ ∃ a b, x = .bl a ∧ y = .bl b ∧ Q (.bl (!decide (a = b))) H) dIsNot := by
  intro σ ρ S H d e x y Q R rx ry h
  have h' : PE1 G W (VRel G fun v H => ∃ b, v = .bl b ∧ Q (.bl (!b)) H) σ ρ S H (dIs d e S) := by
    refine PE1.bind (h : PE1 G W (VRel G Q) σ ρ S H ((dIs d e S).bind _)) fun ρ1 S1 H1 z E1 R1 h1 v rv => ?_
    cases z with
    | bl b =>
      simp only [RV] at rv
      exact ⟨b, rv, fine R1 h1 (by simp only [RV])⟩
    | _ => exact h1.elim
  rcases dIs_ok σ ρ S H d e x y _ R rx ry h' with ⟨e1, b, e2, q⟩ | ⟨a, b, e1, e2, b', e3, q⟩
  · cases e2; exact .inl ⟨e1, q⟩
  · cases e3; exact .inr ⟨a, b, e1, e2, q⟩
theorem op_is' : OpR X (compareOp .Is) (fun x y H Q => (y = .non ∧ Q (.bl (decide (x = .non))) H) ∨ ∃ a b, x = .bl a ∧ y = .bl b ∧ Q (.bl (decide (a = b))) H) := OpR.or op_isN L2.op_is_bl
theorem op_isnot' : OpR X (compareOp .IsNot) (fun x y H Q => (y = .non ∧ Q (.bl (!decide (x = .non))) H) ∨ ∃ a b, x = .bl a ∧ y = .bl b ∧ Q (.bl (!decide (a = b))) H) := OpR.or op_notN L2.op_isnot_bl
/-! ### keys -/
def kyb : Ky → Ky → Bool
  | .inl i, .inl j => ieq i j
  | .inr x, .inr y => leq x y
  | _, _ => false
theorem kyb_iff {a b : Ky} : kyb a b = true ↔ a = b := by
  cases a with
  | inl i => cases b with
    | inl j => show ieq i j = true ↔ _; rw [ieq_eq]; simp
    | inr y => simp [kyb]
  | inr x => cases b with
    | inl j => simp [kyb]
    | inr y => show leq x y = true ↔ _; rw [leq_iff]; simp
def kybs : List Ky → List Ky → Bool
  | [], [] => true
  | a :: as, b :: bs => match kyb a b with
    | true => kybs as bs
    | false => false
  | _, _ => false
theorem kybs_iff : ∀ {a b : List Ky}, kybs a b = true ↔ a = b
  | [], [] => by simp [kybs]
  | [], _ :: _ => by simp [kybs]
  | _ :: _, [] => by simp [kybs]
  | a :: as, b :: bs => by
    unfold kybs
    cases h : kyb a b with
    | true => have := kyb_iff.mp h; subst this; simp [kybs_iff]
    | false =>
      have : a ≠ b := fun e => by rw [kyb_iff.mpr e] at h; cases h
      simp [this]
def keyD : D → Option Ky
  | .int i => some (.inl i)
  | .str x => some (.inr x)
  | _ => none
def keysD : D → Option (List Ky)
  | .tup true ds => mapO keyD ds
  | _ => none
theorem keyD_ok {d : D} {k : Ky} {v : V} (r : RV G ρ S H d v) (e : keyD d = some k) : v = kV (ky k) := by
  cases d <;> simp only [keyD] at e
  all_goals first
    | (cases e; simp only [RV] at r; rw [r]; rfl)
    | cases e
theorem keyDs_ok : ∀ {ds : List D} {ks : List Ky} {vs : List V}, RVs G ρ S H ds vs → mapO keyD ds = some ks → vs = (ks.map ky).map kV
  | [], ks, vs, r, e => by
    simp only [RVs] at r
    simp only [mapO, Option.some.injEq] at e
    subst r e; rfl
  | d :: ds, ks, vs, r, e => by
    simp only [RVs] at r
    obtain ⟨v, q, rfl, r1, r2⟩ := r
    unfold mapO at e
    split at e
    · rename_i y e1
      split at e
      · rename_i ys e2
        cases e
        rw [keyD_ok r1 e1, keyDs_ok r2 e2]; rfl
      · cases e
    · cases e
theorem keysD_ok {d : D} {ks : List Ky} {v : V} (r : RV G ρ S H d v) (e : keysD d = some ks) : ∃ b, v = .ref b ∧ H b = some (.tup ((ks.map ky).map kV)) := by
  unfold keysD at e
  split at e
  · simp only [RV] at r
    obtain ⟨a, vs, rfl, q, r⟩ := r
    exact ⟨a, rfl, by rw [← keyDs_ok r e]; exact q.2 rfl⟩
  · cases e
/-! ### what a dict holds -/
def valK {κ : Type} (eq : κ → κ → Bool) : List (κ × D) → κ → Option D
  | [], _ => none
  | (j, d) :: r, k => match eq j k with
    | true => some d
    | false => valK eq r k
def hasK {κ : Type} (eq : κ → κ → Bool) : List (κ × D) → κ → Bool
  | [], _ => false
  | (j, _) :: r, k => match eq j k with
    | true => true
    | false => hasK eq r k
def mapK {κ : Type} (eq : κ → κ → Bool) (k : κ) (d : D) : List (κ × D) → List (κ × D)
  | [] => []
  | (j, e) :: r => match eq j k with
    | true => (j, d) :: mapK eq k d r
    | false => (j, e) :: mapK eq k d r
def setK {κ : Type} (eq : κ → κ → Bool) (kvs : List (κ × D)) (k : κ) (d : D) : List (κ × D) := match hasK eq kvs k with
  | true => mapK eq k d kvs
  | false => kvs ++ [(k, d)]
def delK {κ : Type} (eq : κ → κ → Bool) (k : κ) : List (κ × D) → List (κ × D)
  | [] => []
  | (j, e) :: r => match eq j k with
    | true => delK eq k r
    | false => (j, e) :: delK eq k r
theorem map_inj {a b : List Ky} (h : a.map ky = b.map ky) : a = b := by
  induction a generalizing b with
  | nil => cases b with
    | nil => rfl
    | cons _ _ => cases h
  | cons x xs ih => cases b with
    | nil => cases h
    | cons y ys =>
      injection h with h1 h2
      rw [ky_inj h1, ih h2]
theorem RK.val : ∀ {kvs : List (Ky × D)} {kv : List (Key × V)}, RK G ρ S H kvs kv → ∀ k : Ky, (valK kyb kvs k = none ∧ valV kv (ky k) = none) ∨ ∃ d v, valK kyb kvs k = some d ∧ valV kv (ky k) = some v ∧ RV G ρ S H d v
  | [], kv, r, k => by
    have r' : kv = [] := r
    subst r'
    exact .inl ⟨rfl, rfl⟩
  | (j, d) :: t, kv, r, k => by
    obtain ⟨v, q, rfl, r1, r2⟩ := r
    simp only [valK]
    cases h : kyb j k with
    | true =>
      have e := kyb_iff.mp h
      subst e
      exact .inr ⟨d, v, rfl, valV_pos rfl, r1⟩
    | false =>
      have ne : ¬ ky j = ky k := fun e => by rw [kyb_iff.mpr (ky_inj e)] at h; cases h
      rw [valV_neg (p := (ky j, v)) ne]
      exact RK.val r2 k
theorem RKt.val : ∀ {kvs : List (List Ky × D)} {kv : List (List Key × V)}, RKt G ρ S H kvs kv → ∀ k : List Ky, (valK kybs kvs k = none ∧ valV kv (k.map ky) = none) ∨ ∃ d v, valK kybs kvs k = some d ∧ valV kv (k.map ky) = some v ∧ RV G ρ S H d v
  | [], kv, r, k => by
    have r' : kv = [] := r
    subst r'
    exact .inl ⟨rfl, rfl⟩
  | (j, d) :: t, kv, r, k => by
    obtain ⟨v, q, rfl, r1, r2⟩ := r
    simp only [valK]
    cases h : kybs j k with
    | true =>
      have e := kybs_iff.mp h
      subst e
      exact .inr ⟨d, v, rfl, valV_pos rfl, r1⟩
    | false =>
      have ne : ¬ j.map ky = k.map ky := fun e => by rw [kybs_iff.mpr (map_inj e)] at h; cases h
      rw [valV_neg (p := (j.map ky, v)) ne]
      exact RKt.val r2 k
theorem RK.len : ∀ {kvs : List (Ky × D)} {kv : List (Key × V)}, RK G ρ S H kvs kv → kv.length = kvs.length
  | [], kv, r => by rw [show kv = [] from r]; rfl
  | (j, d) :: t, kv, r => by
    obtain ⟨v, q, rfl, _, r2⟩ := r
    simp [RK.len r2]
theorem RKt.len : ∀ {kvs : List (List Ky × D)} {kv : List (List Key × V)}, RKt G ρ S H kvs kv → kv.length = kvs.length
  | [], kv, r => by rw [show kv = [] from r]; rfl
  | (j, d) :: t, kv, r => by
    obtain ⟨v, q, rfl, _, r2⟩ := r
    simp [RKt.len r2]
theorem RK.has : ∀ {kvs : List (Ky × D)} {kv : List (Key × V)}, RK G ρ S H kvs kv → ∀ k : Ky, (kv.any fun p => decide (p.1 = ky k)) = hasK kyb kvs k
  | [], kv, r, k => by rw [show kv = [] from r]; rfl
  | (j, d) :: t, kv, r, k => by
    obtain ⟨v, q, rfl, _, r2⟩ := r
    simp only [hasK, List.any_cons]
    cases h : kyb j k with
    | true => rw [kyb_iff.mp h]; simp
    | false =>
      have ne : ¬ ky j = ky k := fun e => by rw [kyb_iff.mpr (ky_inj e)] at h; cases h
      rw [decide_eq_false ne, Bool.false_or]
      exact RK.has r2 k
theorem RKt.has : ∀ {kvs : List (List Ky × D)} {kv : List (List Key × V)}, RKt G ρ S H kvs kv → ∀ k : List Ky, (kv.any fun p => decide (p.1 = k.map ky)) = hasK kybs kvs k
  | [], kv, r, k => by rw [show kv = [] from r]; rfl
  | (j, d) :: t, kv, r, k => by
    obtain ⟨v, q, rfl, _, r2⟩ := r
    simp only [hasK, List.any_cons]
    cases h : kybs j k with
    | true => rw [kybs_iff.mp h]; simp
    | false =>
      have ne : ¬ j.map ky = k.map ky := fun e => by rw [kybs_iff.mpr (map_inj e)] at h; cases h
      rw [decide_eq_false ne, Bool.false_or]
      exact RKt.has r2 k
theorem RK.map {d : D} {x : V} (rd : RV G ρ S H d x) (k : Ky) : ∀ {kvs : List (Ky × D)} {kv : List (Key × V)}, RK G ρ S H kvs kv → RK G ρ S H (mapK kyb k d kvs) (kv.map fun p => if p.1 = ky k then (p.1, x) else p)
  | [], kv, r => by rw [show kv = [] from r]; rfl
  | (j, e) :: t, kv, r => by
    obtain ⟨v, q, rfl, r1, r2⟩ := r
    simp only [mapK, List.map_cons]
    cases h : kyb j k with
    | true =>
      rw [kyb_iff.mp h, if_pos rfl]
      exact ⟨x, _, rfl, rd, RK.map rd k r2⟩
    | false =>
      have ne : ¬ ky j = ky k := fun e => by rw [kyb_iff.mpr (ky_inj e)] at h; cases h
      rw [if_neg ne]
      exact ⟨v, _, rfl, r1, RK.map rd k r2⟩
theorem RKt.map {d : D} {x : V} (rd : RV G ρ S H d x) (k : List Ky) : ∀ {kvs : List (List Ky × D)} {kv : List (List Key × V)}, RKt G ρ S H kvs kv → RKt G ρ S H (mapK kybs k d kvs) (kv.map fun p => if p.1 = k.map ky then (p.1, x) else p)
  | [], kv, r => by rw [show kv = [] from r]; rfl
  | (j, e) :: t, kv, r => by
    obtain ⟨v, q, rfl, r1, r2⟩ := r
    simp only [mapK, List.map_cons]
    cases h : kybs j k with
    | true =>
      rw [kybs_iff.mp h, if_pos rfl]
      exact ⟨x, _, rfl, rd, RKt.map rd k r2⟩
    | false =>
      have ne : ¬ j.map ky = k.map ky := fun e => by rw [kybs_iff.mpr (map_inj e)] at h; cases h
      rw [if_neg ne]
      exact ⟨v, _, rfl, r1, RKt.map rd k r2⟩
theorem RK.snoc {d : D} {x : V} (rd : RV G ρ S H d x) (k : Ky) : ∀ {kvs : List (Ky × D)} {kv : List (Key × V)}, RK G ρ S H kvs kv → RK G ρ S H (kvs ++ [(k, d)]) (kv ++ [(ky k, x)])
  | [], kv, r => by rw [show kv = [] from r]; exact ⟨x, [], rfl, rd, rfl⟩
  | (j, e) :: t, kv, r => by
    obtain ⟨v, q, rfl, r1, r2⟩ := r
    exact ⟨v, _, rfl, r1, RK.snoc rd k r2⟩
theorem RKt.snoc {d : D} {x : V} (rd : RV G ρ S H d x) (k : List Ky) : ∀ {kvs : List (List Ky × D)} {kv : List (List Key × V)}, RKt G ρ S H kvs kv → RKt G ρ S H (kvs ++ [(k, d)]) (kv ++ [(k.map ky, x)])
  | [], kv, r => by rw [show kv = [] from r]; exact ⟨x, [], rfl, rd, rfl⟩
  | (j, e) :: t, kv, r => by
    obtain ⟨v, q, rfl, r1, r2⟩ := r
    exact ⟨v, _, rfl, r1, RKt.snoc rd k r2⟩
theorem RK.set {d : D} {x : V} (rd : RV G ρ S H d x) (k : Ky) {kvs : List (Ky × D)} {kv : List (Key × V)} (r : RK G ρ S H kvs kv) : RK G ρ S H (setK kyb kvs k d) (putK kv (ky k) x) := by
  unfold setK putK
  rw [RK.has r k]
  cases hasK kyb kvs k with
  | true => rw [if_pos rfl]; exact RK.map rd k r
  | false => rw [if_neg Bool.false_ne_true]; exact RK.snoc rd k r
theorem RKt.set {d : D} {x : V} (rd : RV G ρ S H d x) (k : List Ky) {kvs : List (List Ky × D)} {kv : List (List Key × V)} (r : RKt G ρ S H kvs kv) : RKt G ρ S H (setK kybs kvs k d) (putK kv (k.map ky) x) := by
  unfold setK putK
  rw [RKt.has r k]
  cases hasK kybs kvs k with
  | true => rw [if_pos rfl]; exact RKt.map rd k r
  | false => rw [if_neg Bool.false_ne_true]; exact RKt.snoc rd k r
theorem RK.del (k : Ky) : ∀ {kvs : List (Ky × D)} {kv : List (Key × V)}, RK G ρ S H kvs kv → RK G ρ S H (delK kyb k kvs) (dropK kv (ky k))
  | [], kv, r => by rw [show kv = [] from r]; rfl
  | (j, e) :: t, kv, r => by
    obtain ⟨v, q, rfl, r1, r2⟩ := r
    unfold dropK
    rw [List.filter_cons]
    simp only [delK]
    cases h : kyb j k with
    | true =>
      rw [kyb_iff.mp h]
      simp only [ne_eq, not_true_eq_false, decide_false, Bool.false_eq_true, if_false]
      exact RK.del k r2
    | false =>
      have ne : ¬ ky j = ky k := fun e => by rw [kyb_iff.mpr (ky_inj e)] at h; cases h
      simp only [ne_eq, ne, not_false_eq_true, decide_true, if_true]
      exact ⟨v, _, rfl, r1, RK.del k r2⟩
/-- what a dict at p says of a key -/
def look (S : Sto) (x y : D) : Option (Option D) := match x with
  | .obj p => match S.get p with
    | some (.dic _ kvs) => match keyD y with
      | some k => some (valK kyb kvs k)
      | none => none
    | some (.dit _ kvs) => match keysD y with
      | some k => some (valK kybs kvs k)
      | none => none
    | _ => none
  | _ => none
theorem rd_of_lock {l : Bool} {a : Addr} {u : HO} (h : if l = true then ∃ o, H a = some (.frz o u) else H a = some u) : Rd H a u := by
  cases l with
  | true => rw [if_pos rfl] at h; exact .inr h
  | false => rw [if_neg Bool.false_ne_true] at h; exact .inl h
theorem look_ok (R : RS G ρ S H) {d e : D} {x y : V} {o : Option D} (rx : RV G ρ S H d x) (ry : RV G ρ S H e y) (h : look S d e = some o) :
    ∃ a v, x = .ref a ∧ DGet H a y v ∧ ((o = none ∧ v = none) ∨ ∃ d v', o = some d ∧ v = some v' ∧ RV G ρ S H d v') := by
  unfold look at h
  split at h
  · rename_i p
    simp only [RV] at rx
    obtain ⟨rfl, _⟩ := rx
    split at h
    · rename_i l kvs e1
      split at h
      · rename_i k e2
        cases h
        obtain ⟨kv, r, z⟩ := R.ob p _ e1
        refine ⟨_, valV kv (ky k), rfl, .inl ⟨kv, ky k, rd_of_lock z, keyD_ok ry e2, rfl⟩, ?_⟩
        rcases r.val k with ⟨h1, h2⟩ | ⟨d, v, h1, h2, h3⟩
        · exact .inl ⟨h1, h2⟩
        · exact .inr ⟨d, v, h1, h2, h3⟩
      · cases h
    · rename_i l kvs e1
      split at h
      · rename_i k e2
        cases h
        obtain ⟨kv, r, z⟩ := R.ob p _ e1
        obtain ⟨b, e3, e4⟩ := keysD_ok ry e2
        refine ⟨_, valV kv (k.map ky), rfl, .inr ⟨kv, k.map ky, b, rd_of_lock z, e3, e4, rfl⟩, ?_⟩
        rcases r.val k with ⟨h1, h2⟩ | ⟨d, v, h1, h2, h3⟩
        · exact .inl ⟨h1, h2⟩
        · exact .inr ⟨d, v, h1, h2, h3⟩
      · cases h
    · cases h
  · cases h
/-! ### in -/
def flatD : D → Bool
  | .non => true
  | .bl _ => true
  | .int _ => true
  | .str _ => true
  | _ => false
/-- == of plain values -/
def feq : D → D → Bool
  | .non, .non => true
  | .bl a, .bl b => a == b
  | .bl a, .int b => ieq (b2n a) b
  | .int a, .bl b => ieq a (b2n b)
  | .int a, .int b => ieq a b
  | .str a, .str b => leq a b
  | _, _ => false
theorem flatD_ok {d : D} {x : V} (r : RV G ρ S H d x) (f : flatD d = true) : flatV x = true := by
  cases d <;> first
    | (simp only [RV] at r; rw [r]; rfl)
    | cases f
theorem flatDs_ok : ∀ {ds : List D} {xs : List V}, RVs G ρ S H ds xs → ds.all flatD = true → xs.all flatV = true
  | [], xs, r, _ => by simp only [RVs] at r; rw [r]; rfl
  | d :: ds, xs, r, f => by
    simp only [RVs] at r
    obtain ⟨v, q, rfl, r1, r2⟩ := r
    rw [List.all_cons, Bool.and_eq_true] at f ⊢
    exact ⟨flatD_ok r1 f.1, flatDs_ok r2 f.2⟩
theorem feq_ok {d e : D} {x y : V} (r : RV G ρ S H d x) (q : RV G ρ S H e y) (f : flatD d = true) (g : flatD e = true) : eqV x y = feq d e := by
  cases d <;> cases e <;> first
    | exact Bool.noConfusion f
    | exact Bool.noConfusion g
    | (simp only [RV] at r q
       rw [r, q]
       first
         | rfl
         | (simp only [eqV, feq, ieq_eq, leq_eq, b2n]))
theorem anyf_ok {d : D} {x : V} (r : RV G ρ S H d x) (f : flatD d = true) : ∀ {ds : List D} {xs : List V}, RVs G ρ S H ds xs → ds.all flatD = true → inV x xs = ds.any fun e => feq e d
  | [], xs, q, _ => by simp only [RVs] at q; rw [q]; rfl
  | e :: ds, xs, q, g => by
    simp only [RVs] at q
    obtain ⟨v, t, rfl, q1, q2⟩ := q
    rw [List.all_cons, Bool.and_eq_true] at g
    have ih := anyf_ok r f q2 g.2
    unfold inV at ih ⊢
    rw [List.any_cons, List.any_cons, ih, feq_ok q1 r g.1 f]
/-- x in y -/
def memD (S : Sto) (x y : D) : Option Bool := match y with
  | .str b => match x with
    | .str [a] => some (b.any fun z => Nat.beq z a)
    | _ => none
  | .tup _ ys => match flatD x && ys.all flatD with
    | true => some (ys.any fun e => feq e x)
    | false => none
  | .obj p => match S.get p with
    | some (.lst _ ys) => match flatD x && ys.all flatD with
      | true => some (ys.any fun e => feq e x)
      | false => match toDt S 60 x with
        | some a => match mapO (toDt S 59) ys with
          | some bs => some (bs.any fun b => b.eqv a)
          | none => none
        | none => none
    | some (.dic _ _) => (look S y x).map (·.isSome)
    | some (.dit _ _) => (look S y x).map (·.isSome)
    | _ => none
  | _ => none
def rIn' (K : PySem.W.Frag) (neg : Bool) : R2 := fun x y H Q => ((∃ (c : Nat) (z : Str), x = .str ⟨#[c]⟩ ∧ y = .str z ∧ Q (.bl (if neg then !decide (c ∈ z.cps.toList) else decide (c ∈ z.cps.toList))) H) ∨ rIn K neg x y H Q) ∨
  ((∃ d ds, Dp K H x d ∧ Dp K H y (.list ds) ∧ SeqAt.shaped d = true ∧ SeqAt.shaped (.list ds) = true ∧ Q (.bl (if neg then !ds.any fun z => PyData.eqv z d else ds.any fun z => PyData.eqv z d)) H) ∨ ∃ a o, y = .ref a ∧ DGet H a x o ∧ Q (.bl (if neg then !o.isSome else o.isSome)) H)
theorem any_pd (a : Dt) : ∀ bs : List Dt, (bs.any fun b => b.eqv a) = (Dt.pds bs).any fun z => PyData.eqv z a.pd
  | [] => by simp [Dt.pds]
  | b :: bs => by simp only [Dt.pds, List.any_cons, any_pd a bs, Dt.eqv_pd b a]
theorem memD_ok (R : RS G ρ S H) {d e : D} {x y : V} {b neg : Bool} {Q : VK} (rx : RV G ρ S H d x) (ry : RV G ρ S H e y) (h : memD S d e = some b) (q : Q (.bl (if neg then !b else b)) H) : rIn' G.K neg x y H Q := by
  unfold memD at h
  split at h
  · rename_i z
    split at h
    · rename_i a
      cases h
      simp only [RV] at rx ry
      refine .inl (.inl ⟨a, toS z, rx, ry, ?_⟩)
      have e1 : decide (a ∈ (toS z).cps.toList) = z.any fun w => Nat.beq w a := by
        rw [toS_cps]
        cases hz : z.any fun w => Nat.beq w a with
        | true =>
          rw [List.any_eq_true] at hz
          obtain ⟨w, h1, h2⟩ := hz
          rw [← Nat.eq_of_beq_eq_true h2]
          exact decide_eq_true h1
        | false =>
          refine decide_eq_false fun m => ?_
          rw [List.any_eq_false] at hz
          exact hz a m (Nat.beq_refl a)
      rw [e1]
      exact q
    · cases h
  · rename_i w ys
    split at h
    · rename_i hf
      cases h
      obtain ⟨f1, f2⟩ := Bool.and_eq_true_iff.mp hf
      simp only [RV] at ry
      obtain ⟨p, vs, rfl, t, r⟩ := ry
      exact .inl (.inr ⟨p, vs, rfl, .inr t.1, flatD_ok rx f1, flatDs_ok r f2, by rw [anyf_ok rx f1 r f2]; exact q⟩)
    · cases h
  · rename_i p
    have ry' := ry
    simp only [RV] at ry
    obtain ⟨rfl, _⟩ := ry
    split at h
    · rename_i k ys e1
      obtain ⟨vs, t, r⟩ := R.ob p _ e1
      split at h
      · rename_i hf
        cases h
        obtain ⟨f1, f2⟩ := Bool.and_eq_true_iff.mp hf
        exact .inl (.inr ⟨_, vs, rfl, .inl (.inl (.inl t)), flatD_ok rx f1, flatDs_ok r f2, by rw [anyf_ok rx f1 r f2]; exact q⟩)
      · split at h
        · rename_i a e2
          split at h
          · rename_i bs e3
            cases h
            obtain ⟨h1, h2⟩ := toDt_shaped R rx e2
            have e4 : toDt S 60 (.obj p) = some (.lst bs) := by simp only [toDt, e1, e3, Option.map_some]
            obtain ⟨h3, h4⟩ := toDt_shaped R ry' e4
            simp only [Dt.pd] at h3 h4
            exact .inr (.inl ⟨a.pd, Dt.pds bs, h1, h3, h2, h4, by rw [← any_pd]; exact q⟩)
          · cases h
        · cases h
    · rw [Option.map_eq_some_iff] at h
      obtain ⟨o, h1, rfl⟩ := h
      obtain ⟨a, v, e2, g, z⟩ := look_ok R ry' rx h1
      refine .inr (.inr ⟨a, v, e2, g, ?_⟩)
      have : v.isSome = o.isSome := by rcases z with ⟨z1, z2⟩ | ⟨d1, v1, z1, z2, _⟩ <;> rw [z1, z2] <;> rfl
      rw [this]; exact q
    · rw [Option.map_eq_some_iff] at h
      obtain ⟨o, h1, rfl⟩ := h
      obtain ⟨a, v, e2, g, z⟩ := look_ok R ry' rx h1
      refine .inr (.inr ⟨a, v, e2, g, ?_⟩)
      have : v.isSome = o.isSome := by rcases z with ⟨z1, z2⟩ | ⟨d1, v1, z1, z2, _⟩ <;> rw [z1, z2] <;> rfl
      rw [this]; exact q
    · cases h
  · cases h
def dIn : Op2 := fun x y S => match memD S x y with
  | some b => .ok (.bl b) S
  | none => .no
def dNotIn : Op2 := fun x y S => match memD S x y with
  | some b => .ok (.bl (!b)) S
  | none => .no
theorem dIn_ok : Serves G W (rIn' G.K false) dIn := by
  intro σ ρ S H d e x y Q R rx ry h
  unfold dIn at h
  split at h
  · rename_i b hb
    exact memD_ok R rx ry hb (fine R h (by simp only [RV]; rfl))
  · exact h.elim
theorem dNotIn_ok : Serves G W (rIn' G.K true) dNotIn := by
  intro σ ρ S H d e x y Q R rx ry h
  unfold dNotIn at h
  split at h
  · rename_i b hb
    exact memD_ok R rx ry hb (fine R h (by simp only [RV]; rfl))
  · exact h.elim
theorem op_in' (hu : X.A.units + 65 < cLine) : OpR X (compareOp .In) (rIn' X.K false) := by
  refine OpR.or (OpR.or op_in_sign op_in_seq) (OpR.or (op_inD hu) ?_)
  intro pins s σ H x y v u Q I rx ry h
  obtain ⟨a, o, rfl, g, q⟩ := h
  cases ry
  exact d_in (by omega) I g rx fun s' I' => ⟨.bl o.isSome, H, I', rfl, q⟩
theorem op_notin' (hu : X.A.units + 65 < cLine) : OpR X (compareOp .NotIn) (rIn' X.K true) := by
  refine OpR.or (OpR.or op_notIn_sign op_notIn_seq) (OpR.or (op_notInD hu) ?_)
  intro pins s σ H x y v u Q I rx ry h
  obtain ⟨a, o, rfl, g, q⟩ := h
  cases ry
  exact d_notIn (by omega) I g rx fun s' I' => ⟨.bl (!o.isSome), H, I', rfl, q⟩
/-! ### x[y] -/
def ixD {α : Type} (xs : List α) : Int → Option α
  | .ofNat n => xs[n]?
  | .negSucc n => match Nat.blt n xs.length with
    | true => xs[xs.length - 1 - n]?
    | false => none
theorem ixD_eq {α : Type} (xs : List α) (i : Int) : ixD xs i = atI xs i := by
  unfold atI ixN
  cases i with
  | ofNat n =>
    simp only [ixD]
    rw [if_pos (show (0:Int) ≤ Int.ofNat n from Int.natCast_nonneg n)]
    have e : Int.ofNat n = (n : Int) := rfl
    by_cases h : n < xs.length
    · rw [if_pos (by rw [e]; omega)]; rfl
    · rw [if_neg (by rw [e]; omega)]
      exact List.getElem?_eq_none (by omega)
  | negSucc n =>
    simp only [ixD]
    have e : Int.negSucc n = -((n : Int) + 1) := by omega
    rw [if_neg (by rw [e]; omega)]
    by_cases h : n < xs.length
    · rw [show Nat.blt n xs.length = true from by rw [Nat.blt_eq]; exact h, if_pos (by rw [e]; omega)]
      show xs[xs.length - 1 - n]? = xs[_]?
      congr 1
      rw [e]
      omega
    · rw [show Nat.blt n xs.length = false from by rw [← Bool.not_eq_true, Nat.blt_eq]; exact h, if_neg (by rw [e]; omega)]; rfl
def dSub' : Op2 := fun x y S => match x, y with
  | .tup _ xs, .int i => match ixD xs i with
    | some d => .ok d S
    | none => .no
  | .str xs, .int i => match Nat.ble xs.length big with
    | true => match ixD xs i with
      | some a => .ok (.str [a]) S
      | none => .no
    | false => .no
  | .obj p, y => match S.get p with
    | some (.lst _ xs) => match y with
      | .int i => match ixD xs i with
        | some d => .ok d S
        | none => .no
      | _ => .no
    | some (.rol xs) => match y with
      | .int i => match ixD xs i with
        | some d => .ok d S
        | none => .no
      | _ => .no
    | _ => match look S x y with
      | some (some d) => .ok d S
      | _ => .no
  | _, _ => .no
theorem atI_get' {xs : List D} {vs : List V} {i : Int} {d : D} (r : RVs G ρ S H xs vs) (e : ixD xs i = some d) : ∃ v, atI vs i = some v ∧ RV G ρ S H d v := by
  rw [ixD_eq] at e
  unfold atI at e ⊢
  rw [r.length]
  cases h : ixN xs.length i with
  | none => rw [h] at e; cases e
  | some j =>
    rw [h] at e
    exact r.get e
def rSub' (K : PySem.W.Frag) : R2 := fun x y H Q => rIx K x y H Q ∨ ∃ a v, x = .ref a ∧ DGet H a y (some v) ∧ Q v H
theorem dSub'_ok : Serves G W (rSub' G.K) dSub' := by
  intro σ ρ S H d e x y Q R rx ry h
  unfold dSub' at h
  split at h
  · simp only [RV] at rx ry
    obtain ⟨a, vs, rfl, t, r⟩ := rx
    split at h
    · rename_i d' e1
      obtain ⟨v, h1, h2⟩ := atI_get' r e1
      exact .inl (.inr (.inl ⟨a, vs, _, v, rfl, ry, t.1, h1, fine R h h2⟩))
    · exact h.elim
  · rename_i xs i
    simp only [RV] at rx ry
    split at h
    · rename_i hl
      split at h
      · rename_i a e1
        rw [ixD_eq] at e1
        exact .inl (.inr (.inr ⟨toS xs, i, a, rx, ry, by rw [toS_len]; exact ble_line hl, by rw [toS_cps]; exact e1, fine R h (by simp only [RV]; rfl)⟩))
      · exact h.elim
    · exact h.elim
  · rename_i p
    have rx' := rx
    simp only [RV] at rx
    obtain ⟨rfl, _⟩ := rx
    split at h
    · rename_i k xs e1
      split at h
      · rename_i i
        simp only [RV] at ry
        split at h
        · rename_i d' e2
          obtain ⟨vs, t, r⟩ := R.ob p _ e1
          obtain ⟨v, h1, h2⟩ := atI_get' r e2
          exact .inl (.inl ⟨_, vs, i, v, rfl, ry, .inl (.inl t), h1, fine R h h2⟩)
        · exact h.elim
      · exact h.elim
    · rename_i xs e1
      split at h
      · rename_i i
        simp only [RV] at ry
        split at h
        · rename_i d' e2
          obtain ⟨vs, t, r⟩ := R.ob p _ e1
          obtain ⟨v, h1, h2⟩ := atI_get' r e2
          exact .inl (.inl ⟨_, vs, i, v, rfl, ry, t.sq, h1, fine R h h2⟩)
        · exact h.elim
      · exact h.elim
    · split at h
      · rename_i d' e1
        obtain ⟨a, v, h1, g, z⟩ := look_ok R rx' ry e1
        rcases z with ⟨z, _⟩ | ⟨d1, v1, z1, z2, z3⟩
        · cases z
        · cases z1
          subst z2
          exact .inr ⟨a, v1, h1, g, fine R h z3⟩
      · exact h.elim
  · exact h.elim
theorem ix_sub' (hu : X.A.units + 1 < cLine) : IxR X (rSub' X.K) := by
  refine IxR.or ix_seq ?_
  intro value slice pins s σ H x y v u Q I rx ry h hs
  obtain ⟨a, z, rfl, g, q⟩ := h
  cases rx
  obtain ⟨w, hw⟩ : ∃ w : Value, True := ⟨.none, trivial⟩
  have ht := dict_typeIs I g
  unfold subscriptTail
  refine wpAny_bind ?_
  rw [getitemInPython_of_ne ht.not_modules]
  refine wpAny_bind (wpAny_specialOf ht PySem.F.slot_dict_getitem.lookup ?_)
  have fin : wpAny (model X.prog X.w) X.A (subscripted slice false (.ref a) u) (fun r s₃ => wpAny (model X.prog X.w) X.A (letTemporaryGo value (.ref a) r >>= fun _ => pure r) (EP X pins σ Q) X.xe s₃) X.xe s := by
    rw [hs]
    exact wpAny_operating (d_getItem hu I g ry fun r s3 I3 rr => wpAny_bind (wpAny_letTemporaryGo (wpAny_pure ⟨z, H, I3, rr, q⟩)))
  first
    | exact wpAny_pure (wpAny_bind fin)
    | exact wpAny_bind (wpAny_pure (wpAny_bind fin))
    | exact wpAny_bind fin
end
end Ev
set_option Elab.async false
set_option linter.all false
set_option maxRecDepth 100000
namespace Ev
open PySem PySem.Spec PyProof.Rows L2
/-! ### built-in functions on values -/
def eB (f : List D → Sto → Rs D) (a : Av) : Ev := fun c env S => (a c env S).bind f
def ServesL (G : GT) (W : WX') (r : List V → Hp → VK → Prop) (f : List D → Sto → Rs D) : Prop := ∀ (σ : List (Option V)) ρ S H ds xs Q, RS G ρ S H → RVs G ρ S H ds xs → PE1 G W (VRel G Q) σ ρ S H (f ds S) → r xs H Q
section
variable {G : GT} {W : WX'} {c : Cal} {ρ ρ' : Po → Addr} {S S' : Sto} {H H' : Hp} {σ : List (Option V)} {X : Cx} {env : Slots}
theorem tBlt {f : List D → Sto → Rs D} {a : Av} {r : List V → Hp → VK → Prop} (hs : ServesL G W r f) {Q : VK} (h : tE G W c (eB f a) σ H Q) : tCB r (tA G W c a) σ H Q := by
  obtain ⟨ρ, S, env, R, re, h⟩ := h
  exact ⟨ρ, S, env, R, re, PE1.bind h fun ρ1 S1 H1 ds E1 R1 h1 xs rx => hs σ ρ1 S1 H1 ds xs Q R1 rx h1⟩
theorem x_callB {x : Str} {p pos : Pos} {e : Expr} {es : List Expr} {id : String} {f : List D → Sto → Rs D} {a : Av} {r : List V → Hp → VK → Prop} (hc : CallR X (.builtin id) r) (hs : ServesL G W r f) (hg : Gl X x) (hm : X.mg x = none)
    (hv : bootBuiltins x = some (.builtin id)) (ha : PA X (e :: es) (tA G W c a)) (hn : x ≠ "__name__" := by decide) (hdb : (x == ("__debug__" : Str)) = false := by decide)
    (he : starEach (e :: es) X.env = (false, eval e X.env) :: starEach es X.env := by rfl) (hpl : (backTo pos (starEach es X.env)).any (·.1) = false := by rfl) :
    PE X (.Call (.Name x p) (e :: es) [] pos) (tE G W c (eB f a)) := pe_imp (pe_callB hc hg hm hv ha hn hdb he hpl) fun _ _ _ h => tBlt hs h
theorem x_callTy {x : Str} {p pos : Pos} {e : Expr} {es : List Expr} {T : String} {f : List D → Sto → Rs D} {a : Av} {r : List V → Hp → VK → Prop} (hc : CallR X (.type T) r) (hs : ServesL G W r f) (hg : Gl X x) (hm : X.mg x = none)
    (hv : bootBuiltins x = some (.type T)) (ha : PA X (e :: es) (tA G W c a)) (hn : x ≠ "__name__" := by decide) (hdb : (x == ("__debug__" : Str)) = false := by decide)
    (he : starEach (e :: es) X.env = (false, eval e X.env) :: starEach es X.env := by rfl) (hpl : (backTo pos (starEach es X.env)).any (·.1) = false := by rfl) :
    PE X (.Call (.Name x p) (e :: es) [] pos) (tE G W c (eB f a)) := pe_imp (pe_callTy hc hg hm hv ha hn hdb he hpl) fun _ _ _ h => tBlt hs h
theorem cr_or {f : Value} {r r' : List V → Hp → VK → Prop} (h : CallR X f r) (h' : CallR X f r') : CallR X f (fun xs H Q => r xs H Q ∨ r' xs H Q) := by
  intro pins s σ H xs us Q I rs q
  rcases q with q | q
  · exact h pins s σ H xs us Q I rs q
  · exact h' pins s σ H xs us Q I rs q
theorem RVs.one_inv {d : D} {xs : List V} (r : RVs G ρ S H [d] xs) : ∃ x, xs = [x] ∧ RV G ρ S H d x := by
  simp only [RVs] at r
  obtain ⟨x, q, rfl, r, rfl⟩ := r
  exact ⟨x, rfl, r⟩
theorem RVs.two_inv {d e : D} {xs : List V} (r : RVs G ρ S H [d, e] xs) : ∃ x y, xs = [x, y] ∧ RV G ρ S H d x ∧ RV G ρ S H e y := by
  simp only [RVs] at r
  obtain ⟨x, q, rfl, r, y, q', rfl, r', rfl⟩ := r
  exact ⟨x, y, rfl, r, r'⟩
/-- the items of a list or a tuple -/
def seqD (d : D) (S : Sto) : Option (List D) := match d with
  | .tup _ xs => some xs
  | .obj p => match S.get p with
    | some (.lst _ xs) => some xs
    | some (.rol xs) => some xs
    | _ => none
  | _ => none
theorem seqD_ok (R : RS G ρ S H) {d : D} {x : V} {ds : List D} (r : RV G ρ S H d x) (h : seqD d S = some ds) :
    ∃ a vs, x = .ref a ∧ ((SqL G.K H a vs ∧ ∃ p, d = .obj p) ∨ (SqT G.K H a vs ∧ ∃ w, d = .tup w ds)) ∧ RVs G ρ S H ds vs := by
  unfold seqD at h
  split at h
  · cases h
    simp only [RV] at r
    obtain ⟨a, vs, rfl, t, q⟩ := r
    exact ⟨a, vs, rfl, .inr ⟨t.1, _, rfl⟩, q⟩
  · rename_i p
    simp only [RV] at r
    obtain ⟨rfl, _⟩ := r
    split at h
    · rename_i k xs e
      cases h
      obtain ⟨vs, t, q⟩ := R.ob p _ e
      exact ⟨_, vs, rfl, .inl ⟨.inl (.inl t), p, rfl⟩, q⟩
    · rename_i xs e
      cases h
      obtain ⟨vs, t, q⟩ := R.ob p _ e
      exact ⟨_, vs, rfl, .inl ⟨t.sq, p, rfl⟩, q⟩
    · cases h
  · cases h
/-- len -/
def bLen : List D → Sto → Rs D := fun ds S => match ds with
  | [.str l] => match Nat.ble l.length big with
    | true => .ok (.int (.ofNat l.length)) S
    | false => .no
  | [d] => match seqD d S with
    | some xs => .ok (.int (.ofNat xs.length)) S
    | none => .no
  | _ => .no
def rLen (K : PySem.W.Frag) : List V → Hp → VK → Prop := fun xs H Q => (∃ p ys, xs = [.ref p] ∧ (SqL K H p ys ∨ SqT K H p ys) ∧ Q (.int ys.length) H) ∨ ∃ z, xs = [.str z] ∧ z.length ≤ sizeLine ∧ Q (.int z.length) H
theorem cr_len : CallR X (.builtin "len") (rLen X.K) := cr_or call_len_seq call_len_str
theorem bLen_ok : ServesL G W (rLen G.K) bLen := by
  intro σ ρ S H ds xs Q R rx h
  unfold bLen at h
  split at h
  · rename_i l
    split at h
    · rename_i hl
      obtain ⟨x, rfl, r⟩ := rx.one_inv
      simp only [RV] at r
      subst r
      exact .inr ⟨toS l, rfl, by rw [toS_len]; exact ble_line hl, fine R h (by simp only [RV]; rw [toS_len]; rfl)⟩
    · exact h.elim
  · rename_i d _
    split at h
    · rename_i es e
      obtain ⟨x, rfl, r⟩ := rx.one_inv
      obtain ⟨a, vs, rfl, t, q⟩ := seqD_ok R r e
      refine .inl ⟨a, vs, rfl, t.imp (·.1) (·.1), fine R h ?_⟩
      simp only [RV]
      rw [q.length]; rfl
    · exact h.elim
  · exact h.elim
/-- abs -/
def bAbs : List D → Sto → Rs D := fun ds S => match ds with
  | [.int i] => .ok (.int (if i < 0 then -i else i)) S
  | _ => .no
theorem bAbs_ok : ServesL G W (fun xs H Q => ∃ i, xs = [.int i] ∧ Q (.int (if i < 0 then -i else i)) H) bAbs := by
  intro σ ρ S H ds xs Q R rx h
  unfold bAbs at h
  split at h
  · rename_i i
    obtain ⟨x, rfl, r⟩ := rx.one_inv
    simp only [RV] at r
    subst r
    exact ⟨i, rfl, fine R h (by simp only [RV])⟩
  · exact h.elim
/-- min of two -/
def bMin2 : List D → Sto → Rs D := fun ds S => match ds with
  | [.int i, .int j] => .ok (.int (if j < i then j else i)) S
  | _ => .no
theorem bMin2_ok : ServesL G W (fun xs H Q => ∃ i j, xs = [.int i, .int j] ∧ Q (.int (if j < i then j else i)) H) bMin2 := by
  intro σ ρ S H ds xs Q R rx h
  unfold bMin2 at h
  split at h
  · rename_i i j
    obtain ⟨x, y, rfl, r, q⟩ := rx.two_inv
    simp only [RV] at r q
    subst r q
    exact ⟨i, j, rfl, fine R h (by simp only [RV])⟩
  · exact h.elim
/-- tuple(..), list(..) of a sequence -/
def bTup : List D → Sto → Rs D := fun ds S => match ds with
  | [.tup w xs] => .ok (.tup w xs) S
  | [d] => match seqD d S with
    | some xs => .ok (.tup true xs) S
    | none => .no
  | _ => .no
theorem bTup_ok : ServesL G W (fun xs H Q => ∃ p ys, xs = [.ref p] ∧ ((SqL G.K H p ys ∧ ∀ l, H l = none → Q (.ref l) (upd H l (.tup ys))) ∨ (SqT G.K H p ys ∧ Q (.ref p) H))) bTup := by
  intro σ ρ S H ds xs Q R rx h
  unfold bTup at h
  split at h
  · obtain ⟨x, rfl, r⟩ := rx.one_inv
    have r' := r
    simp only [RV] at r
    obtain ⟨a, vs, rfl, t, q⟩ := r
    exact ⟨a, vs, rfl, .inr ⟨t.1, fine R h r'⟩⟩
  · rename_i d nt
    split at h
    · rename_i es e
      obtain ⟨x, rfl, r⟩ := rx.one_inv
      obtain ⟨a, vs, rfl, t, q⟩ := seqD_ok R r e
      rcases t with ⟨t, _⟩ | ⟨_, w, z⟩
      · refine ⟨a, vs, rfl, .inl ⟨t, fun l hl => ?_⟩⟩
        obtain ⟨E, R2, r2⟩ := new_tup R hl q
        exact h _ _ E R2 _ r2
      · exact absurd z (nt w es)
    · exact h.elim
  · exact h.elim
def bLst : List D → Sto → Rs D := fun ds S => match ds with
  | [d] => match seqD d S with
    | some xs => mkO (.lst 0 xs) S
    | none => .no
  | _ => .no
theorem bLst_ok : ServesL G W (fun xs H Q => ∃ p ys, xs = [.ref p] ∧ (SqL G.K H p ys ∨ SqT G.K H p ys) ∧ ∀ l, H l = none → Q (.ref l) (upd H l (.lst ys))) bLst := by
  intro σ ρ S H ds xs Q R rx h
  unfold bLst at h
  split at h
  · split at h
    · rename_i es e
      obtain ⟨x, rfl, r⟩ := rx.one_inv
      obtain ⟨a, vs, rfl, t, q⟩ := seqD_ok R r e
      exact ⟨a, vs, rfl, t.imp (·.1) (·.1), new_lst R q h⟩
    · exact h.elim
  · exact h.elim
/-- the text of an int -/
def intL : Int → List Nat
  | .ofNat n => TL.numL n
  | .negSucc n => 45 :: TL.numL (n + 1)
theorem intL_ok (i : Int) : Str.ofString (toString i) = toS (intL i) := by
  cases i with
  | ofNat n => exact SX.num_S n
  | negSucc n =>
    refine TL.ext_tl ?_
    have e : toString (Int.negSucc n) = "-" ++ toString ((n + 1 : Nat) : Int) := rfl
    rw [e, TL.tl_ofString]
    have e2 : ("-" ++ toString ((n + 1 : Nat) : Int)).toList = '-' :: (toString ((n + 1 : Nat) : Int)).toList := by rw [String.toList_append]; rfl
    rw [e2, List.map_cons, ← TL.tl_ofString, TL.tl_num]
    rfl
def shortI (i : Int) : Bool := Nat.blt i.natAbs (2 ^ 1900)
theorem shortI_ok {i : Int} (h : shortI i = true) : i.natAbs.log2 < 1920 := by
  have h1 : i.natAbs < 2 ^ 1900 := by rw [← Nat.blt_eq]; exact h
  by_cases z : i.natAbs = 0
  · rw [z]; decide
  · have := (Nat.log2_lt z).mpr h1
    omega
def bStr : List D → Sto → Rs D := fun ds S => match ds with
  | [.int i] => match shortI i with
    | true => .ok (.str (intL i)) S
    | false => .no
  | [.str l] => .ok (.str l) S
  | _ => .no
theorem cr_str : CallR X (.type "str") (fun xs H Q => (∃ i, xs = [.int i] ∧ i.natAbs.log2 < 1920 ∧ Q (.str (toString i)) H) ∨ ∃ a, xs = [.str a] ∧ Q (.str a) H) := cr_or call_str_int SkE.call_str_str
theorem bStr_ok : ServesL G W (fun xs H Q => (∃ i, xs = [.int i] ∧ i.natAbs.log2 < 1920 ∧ Q (.str (toString i)) H) ∨ ∃ a, xs = [.str a] ∧ Q (.str a) H) bStr := by
  intro σ ρ S H ds xs Q R rx h
  unfold bStr at h
  split at h
  · rename_i i
    obtain ⟨x, rfl, r⟩ := rx.one_inv
    simp only [RV] at r
    subst r
    split at h
    · rename_i hi
      exact .inl ⟨i, rfl, shortI_ok hi, fine R h (by simp only [RV]; rw [intL_ok])⟩
    · exact h.elim
  · rename_i l
    obtain ⟨x, rfl, r⟩ := rx.one_inv
    have r' := r
    simp only [RV] at r
    subst r
    exact .inr ⟨toS l, rfl, fine R h r'⟩
  · exact h.elim
/-- int(..) of digits, of an int, of a truth -/
def digB (l : List Nat) : Bool := l.all fun c => decide (48 ≤ c) && decide (c ≤ 57)
def bInt : List D → Sto → Rs D := fun ds S => match ds with
  | [.str l] => match digB l && !l.isEmpty && Nat.ble l.length 640 with
    | true => .ok (.int (.ofNat (NumText.digitsVal l))) S
    | false => .no
  | [.int i] => .ok (.int i) S
  | [.bl b] => .ok (.int (b2n b)) S
  | _ => .no
def rInt : List V → Hp → VK → Prop := fun xs H Q => (∃ a n, xs = [.str a] ∧ PySem.intText? a = some n ∧ a.length ≤ 640 ∧ Q (.int n) H) ∨ ((∃ i, xs = [.int i] ∧ Q (.int i) H) ∨ ∃ k, xs = [.bl k] ∧ Q (.int (if k then 1 else 0)) H)
theorem cr_int : CallR X (.type "int") rInt := cr_or call_int_str call_int1
theorem bInt_ok : ServesL G W rInt bInt := by
  intro σ ρ S H ds xs Q R rx h
  unfold bInt at h
  split at h
  · rename_i l
    obtain ⟨x, rfl, r⟩ := rx.one_inv
    simp only [RV] at r
    subst r
    split at h
    · rename_i hi
      rw [Bool.and_eq_true, Bool.and_eq_true, Bool.not_eq_true'] at hi
      obtain ⟨⟨h1, h2⟩, h3⟩ := hi
      have h3' := Nat.le_of_ble_eq_true h3
      refine .inl ⟨toS l, _, rfl, SX.int_S h1 (fun z => by rw [z] at h2; cases h2) (by omega), by rw [toS_len]; exact h3', fine R h (by simp only [RV]; rfl)⟩
    · exact h.elim
  · rename_i i
    obtain ⟨x, rfl, r⟩ := rx.one_inv
    have r' := r
    simp only [RV] at r
    subst r
    exact .inr (.inl ⟨i, rfl, fine R h r'⟩)
  · rename_i b
    obtain ⟨x, rfl, r⟩ := rx.one_inv
    simp only [RV] at r
    subst r
    exact .inr (.inr ⟨b, rfl, fine R h (by simp only [RV]; cases b <;> rfl)⟩)
  · exact h.elim
/-- all(..), any(..) of a list of truths -/
def truthD : D → Option Bool
  | .bl b => some b
  | _ => none
theorem truths_ok : ∀ {ds : List D} {bs : List Bool} {vs : List V}, RVs G ρ S H ds vs → mapO truthD ds = some bs → vs = bs.map V.bl
  | [], bs, vs, r, e => by
    simp only [RVs] at r
    simp only [mapO, Option.some.injEq] at e
    subst r e; rfl
  | d :: ds, bs, vs, r, e => by
    simp only [RVs] at r
    obtain ⟨v, q, rfl, r1, r2⟩ := r
    unfold mapO at e
    split at e
    · rename_i y e1
      split at e
      · rename_i ys e2
        cases e
        cases d <;> simp only [truthD] at e1
        all_goals first
          | cases e1
          | skip
        simp only [RV] at r1
        rw [truths_ok r2 e2, r1]; rfl
      · cases e
    · cases e
def lstD (d : D) (S : Sto) : Option (List D) := match d with
  | .obj _ => seqD d S
  | _ => none
theorem lstD_ok (R : RS G ρ S H) {d : D} {x : V} {ds : List D} (r : RV G ρ S H d x) (h : lstD d S = some ds) : ∃ a vs, x = .ref a ∧ SqL G.K H a vs ∧ RVs G ρ S H ds vs := by
  cases d <;> simp only [lstD] at h
  all_goals first
    | cases h
    | skip
  obtain ⟨a, vs, e, t, q⟩ := seqD_ok R r h
  rcases t with ⟨t, _⟩ | ⟨_, w, z⟩
  · exact ⟨a, vs, e, t, q⟩
  · cases z
def bAll : List D → Sto → Rs D := fun ds S => match ds with
  | [d] => match lstD d S with
    | some xs => match mapO truthD xs with
      | some bs => .ok (.bl (bs.all id)) S
      | none => .no
    | none => .no
  | _ => .no
theorem bAll_ok : ServesL G W (rAll G.K) bAll := by
  intro σ ρ S H ds xs Q R rx h
  unfold bAll at h
  split at h
  · split at h
    · rename_i es e
      split at h
      · rename_i bs e2
        obtain ⟨x, rfl, r⟩ := rx.one_inv
        obtain ⟨a, vs, rfl, t, q⟩ := lstD_ok R r e
        rw [truths_ok q e2] at t
        exact ⟨a, bs, rfl, t, fine R h (by simp only [RV])⟩
      · exact h.elim
    · exact h.elim
  · exact h.elim
def bAny : List D → Sto → Rs D := fun ds S => match ds with
  | [d] => match lstD d S with
    | some xs => match mapO truthD xs with
      | some bs => .ok (.bl (bs.any id)) S
      | none => .no
    | none => .no
  | _ => .no
theorem bAny_ok : ServesL G W (rAny G.K) bAny := by
  intro σ ρ S H ds xs Q R rx h
  unfold bAny at h
  split at h
  · split at h
    · rename_i es e
      split at h
      · rename_i bs e2
        obtain ⟨x, rfl, r⟩ := rx.one_inv
        obtain ⟨a, vs, rfl, t, q⟩ := lstD_ok R r e
        rw [truths_ok q e2] at t
        exact ⟨a, bs, rfl, t, fine R h (by simp only [RV])⟩
      · exact h.elim
    · exact h.elim
  · exact h.elim
end
end Ev
set_option Elab.async false
set_option linter.all false
set_option maxRecDepth 100000
namespace Ev
open PySem PySem.Spec PyProof.Rows L2
/-! ### methods of texts and lists -/
abbrev MOp := D → List D → Sto → Rs D
def eBM (q : D → Sto → Bool) (f : MOp) (o : Ev) (a : Av) : Ev := fun c env S => (o c env S).bind fun x S1 => match q x S1 with
  | true => (a c env S1).bind fun ds S2 => f x ds S2
  | false => .no
def ServesM (G : GT) (W : WX') (r : V → List V → Hp → VK → Prop) (f : MOp) : Prop := ∀ (σ : List (Option V)) ρ S H d ds x xs Q, RS G ρ S H → RV G ρ S H d x → RVs G ρ S H ds xs → PE1 G W (VRel G Q) σ ρ S H (f d ds S) → r x xs H Q
def TyQ (G : GT) (T : String) (q : D → Sto → Bool) : Prop := ∀ ρ S H d x, RS G ρ S H → RV G ρ S H d x → q d S = true → tyV G.K T x H
def isStrD (d : D) (_ : Sto) : Bool := match d with
  | .str _ => true
  | _ => false
def isLstD (d : D) (S : Sto) : Bool := (lstD d S).isSome
section
variable {G : GT} {W : WX'} {c : Cal} {ρ ρ' : Po → Addr} {S S' : Sto} {H H' : Hp} {σ : List (Option V)} {X : Cx} {env : Slots}
theorem ty_str : TyQ G "str" isStrD := by
  intro ρ S H d x R r h
  cases d <;> first
    | (simp only [RV] at r; subst r; rfl)
    | exact Bool.noConfusion h
theorem ty_list : TyQ G "list" isLstD := by
  intro ρ S H d x R r h
  unfold isLstD at h
  obtain ⟨ds, e⟩ := Option.isSome_iff_exists.mp h
  obtain ⟨a, vs, rfl, t, _⟩ := lstD_ok R r e
  exact .inl ⟨rfl, vs, t⟩
theorem tBMe {q : D → Sto → Bool} {f : MOp} {T : String} {r : V → List V → Hp → VK → Prop} {o : Ev} {a : Av} (hT : TyQ G T q) (hs : ServesM G W r f) {Q : VK} (h : tE G W c (eBM q f o a) σ H Q) : tBM G.K T r (tE G W c o) (tA G W c a) σ H Q := by
  obtain ⟨ρ, S, env, R, re, h⟩ := h
  refine ⟨ρ, S, env, R, re, PE1.bind h fun ρ1 S1 H1 d E1 R1 h1 x rx => ?_⟩
  cases hq : q d S1 with
  | false => rw [hq] at h1; exact h1.elim
  | true =>
    rw [hq] at h1
    refine ⟨hT ρ1 S1 H1 d x R1 rx hq, ρ1, S1, env, R1, re.ext E1 R, PE1.bind h1 fun ρ2 S2 H2 ds E2 R2' h2 xs rxs => ?_⟩
    exact hs σ ρ2 S2 H2 d ds x xs Q R2' (rx.ext E2 R1) rxs h2
theorem x_bm {T id : String} {name : Str} {apos cpos : Pos} {o e : Expr} {es : List Expr} {vo : Ev} {va : Av} {q : D → Sto → Bool} {f : MOp} {r : V → List V → Hp → VK → Prop} (hK : X.K = G.K) (pa : PlainAttrs T) (slot : Slot T name id)
    (hty : typeOf (.builtin id) = pure (.type "method_descriptor")) (hm : MtR X id r) (hT : TyQ G T q) (hs : ServesM G W r f) (ho : PE X o (tE G W c vo)) (ha : PA X (e :: es) (tA G W c va))
    (hbase : attributeBase o name X.env (eval o X.env) = eval o X.env := by rfl)
    (hfew : ((backTo cpos (starEach (e :: es) X.env)).all (fun x => !x.1) && (backToKw cpos (keywordEach [] X.env)).all (fun x => x.1.isSome) && decide ((e :: es).length + ([] : List Keyword).length + (if ([] : List Keyword).isEmpty then 0 else 1) < 30)) = true := by rfl)
    (hline : (apos.endLine == cpos.line) = true := by rfl) (hst : starEach (e :: es) X.env = (false, eval e X.env) :: starEach es X.env := by rfl) (hpl : (backTo cpos (starEach es X.env)).any (·.1) = false := by rfl) :
    PE X (.Call (.Attribute o name apos) (e :: es) [] cpos) (tE G W c (eBM q f vo va)) := by
  refine pe_imp (pe_bm pa slot hty hm ho ha hbase hfew hline hst hpl) fun σ H Q h => ?_
  rw [hK]
  exact tBMe hT hs h
/-- x.split(y) -/
def mSplit : MOp := fun x ds S => match x, ds with
  | .str a, [.str b] => match !b.isEmpty && b.all (· < 256) && Nat.ble (a.length + 2) big with
    | true => mkO (.lst 0 ((TL.spl b 0 [] a).map .str)) S
    | false => .no
  | _, _ => .no
theorem RVs.strs : ∀ (l : List (List Nat)), RVs G ρ S H (l.map .str) ((l.map toS).map V.str)
  | [] => RVs.nil
  | x :: l => RVs.cons (by simp only [RV]) (RVs.strs l)
theorem mSplit_ok : ServesM G W (fun x xs H Q => ∃ a b, x = .str a ∧ xs = [.str b] ∧ (b.length == 0) = false ∧ a.length + 2 ≤ sizeLine ∧ rNewStrs (Txt.split a b) H Q) mSplit := by
  intro σ ρ S H d ds x xs Q R rx rxs h
  unfold mSplit at h
  split at h
  · rename_i a b
    split at h
    · rename_i hb
      rw [Bool.and_eq_true, Bool.and_eq_true, Bool.not_eq_true'] at hb
      obtain ⟨⟨h1, h2⟩, h3⟩ := hb
      have hne : b ≠ [] := fun z => by rw [z] at h1; cases h1
      obtain ⟨y, rfl, ry⟩ := rxs.one_inv
      simp only [RV] at rx ry
      subst rx ry
      refine ⟨toS a, toS b, rfl, rfl, ?_, by rw [toS_len]; exact ble_line h3, ?_⟩
      · rw [toS_len]
        cases b with
        | nil => exact absurd rfl hne
        | cons _ _ => rfl
      · have e : Txt.split (toS a) (toS b) = (TL.spl b 0 [] a).map toS := SX.split_S hne h2
        rw [e]
        exact new_lst R (RVs.strs _) h
    · exact h.elim
  · exact h.elim
/-- x.partition(y) -/
def partD (a b : List Nat) : List (List Nat) := match TL.par b [] a with
  | some (p, q) => [p, b, q]
  | none => [a, [], []]
def mPart : MOp := fun x ds S => match x, ds with
  | .str a, [.str b] => match !b.isEmpty && Nat.ble a.length big with
    | true => .ok (.tup true ((partD a b).map .str)) S
    | false => .no
  | _, _ => .no
theorem mPart_ok : ServesM G W (fun x xs H Q => ∃ a b, x = .str a ∧ xs = [.str b] ∧ (b.length == 0) = false ∧ a.length ≤ sizeLine ∧
    ∀ p, H p = none → Q (.ref p) (upd H p (.tup [.str (Txt.partition a b).1, .str (Txt.partition a b).2.1, .str (Txt.partition a b).2.2]))) mPart := by
  intro σ ρ S H d ds x xs Q R rx rxs h
  unfold mPart at h
  split at h
  · rename_i a b
    split at h
    · rename_i hb
      rw [Bool.and_eq_true, Bool.not_eq_true'] at hb
      obtain ⟨h1, h3⟩ := hb
      have hne : b ≠ [] := fun z => by rw [z] at h1; cases h1
      obtain ⟨y, rfl, ry⟩ := rxs.one_inv
      simp only [RV] at rx ry
      subst rx ry
      refine ⟨toS a, toS b, rfl, rfl, ?_, by rw [toS_len]; exact ble_line h3, fun p hp => ?_⟩
      · rw [toS_len]
        cases b with
        | nil => exact absurd rfl hne
        | cons _ _ => rfl
      · have e : [V.str (Txt.partition (toS a) (toS b)).1, .str (Txt.partition (toS a) (toS b)).2.1, .str (Txt.partition (toS a) (toS b)).2.2] = ((partD a b).map toS).map V.str := by
          unfold partD
          cases z : TL.par b [] a with
          | none =>
            have e : Txt.partition (toS a) (toS b) = (toS a, toS [], toS []) := SX.partition_none hne z
            rw [e]; rfl
          | some w =>
            obtain ⟨u, v⟩ := w
            have e : Txt.partition (toS a) (toS b) = (toS u, toS b, toS v) := SX.partition_some hne z
            rw [e]; rfl
        rw [e]
        obtain ⟨E, R2, r2⟩ := new_tup R hp (RVs.strs (partD a b))
        exact h _ _ E R2 _ r2
    · exact h.elim
  · exact h.elim
/-- x.join(a list or tuple of texts) -/
def strD : D → Option (List Nat)
  | .str l => some l
  | _ => none
theorem strs_inv : ∀ {ds : List D} {ls : List (List Nat)} {vs : List V}, RVs G ρ S H ds vs → mapO strD ds = some ls → vs = (ls.map toS).map V.str
  | [], ls, vs, r, e => by
    simp only [RVs] at r
    simp only [mapO, Option.some.injEq] at e
    subst r e; rfl
  | d :: ds, ls, vs, r, e => by
    simp only [RVs] at r
    obtain ⟨v, q, rfl, r1, r2⟩ := r
    unfold mapO at e
    split at e
    · rename_i y e1
      split at e
      · rename_i ys e2
        cases e
        cases d <;> simp only [strD] at e1
        all_goals first
          | (cases e1; done)
          | skip
        simp only [RV] at r1
        cases e1
        rw [strs_inv r2 e2, r1]; rfl
      · cases e
    · cases e
def mJoin : MOp := fun x ds S => match x, ds with
  | .str a, [d] => match seqD d S with
    | some es => match mapO strD es with
      | some ls => match Nat.ble ((ls.map (·.length)).sum + ls.length * a.length) big with
        | true => .ok (.str (TL.joinL a ls)) S
        | false => .no
      | none => .no
    | none => .no
  | _, _ => .no
theorem mJoin_ok : ServesM G W (fun x xs H Q => ∃ a p, ∃ ys : List Str, x = .str a ∧ xs = [.ref p] ∧ (SqL G.K H p (ys.map V.str) ∨ SqT G.K H p (ys.map V.str)) ∧
    (ys.map (·.length)).sum + ys.length * a.length ≤ 16777216 ∧ Q (.str (Txt.join a ys)) H) mJoin := by
  intro σ ρ S H d ds x xs Q R rx rxs h
  unfold mJoin at h
  split at h
  · rename_i a d
    split at h
    · rename_i es e1
      split at h
      · rename_i ls e2
        split at h
        · rename_i hz
          obtain ⟨y, rfl, ry⟩ := rxs.one_inv
          simp only [RV] at rx
          subst rx
          obtain ⟨p, vs, rfl, t, q⟩ := seqD_ok R ry e1
          have e := strs_inv q e2
          subst e
          refine ⟨toS a, p, ls.map toS, rfl, rfl, t.imp (·.1) (·.1), ?_, fine R h ?_⟩
          · have h1 : (ls.map toS).map (·.length) = ls.map (·.length) := SX.lens ls
            rw [h1, List.length_map, toS_len]
            exact Nat.le_of_ble_eq_true hz
          · simp only [RV]
            have h2 : Txt.join (toS a) (ls.map toS) = toS (TL.joinL a ls) := SX.join_S a ls
            rw [h2]
        · exact h.elim
      · exact h.elim
    · exact h.elim
  · exact h.elim
/-- x.startswith(y) -/
def mStarts : MOp := fun x ds S => match x, ds with
  | .str a, [.str b] => .ok (.bl (TL.pre b a)) S
  | _, _ => .no
theorem starts_eq (a b : List Nat) : Txt.startswith (toS a) (toS b) = TL.pre b a := by
  unfold Txt.startswith
  rw [PySem.StrLaws.subAt_eq, Nat.zero_add, toS_len, toS_len, toS_cps, toS_cps, List.drop_zero]
  unfold TL.pre
  by_cases hl : b.length ≤ a.length
  · rw [decide_eq_true hl, Bool.true_and]
  · rw [decide_eq_false hl, Bool.false_and]
    cases h : (a.take b.length == b) with
    | false => rfl
    | true =>
      have := congrArg List.length (eq_of_beq h)
      rw [List.length_take] at this
      omega
theorem mStarts_ok : ServesM G W (fun x xs H Q => ∃ a b, x = .str a ∧ xs = [.str b] ∧ Q (.bl (Txt.startswith a b)) H) mStarts := by
  intro σ ρ S H d ds x xs Q R rx rxs h
  unfold mStarts at h
  split at h
  · rename_i a b
    obtain ⟨y, rfl, ry⟩ := rxs.one_inv
    simp only [RV] at rx ry
    subst rx ry
    exact ⟨toS a, toS b, rfl, rfl, fine R h (by simp only [RV]; rw [starts_eq])⟩
  · exact h.elim
/-- x.append(y), x.insert(i, y) -/
def mAppend : MOp := fun x ds S => match x, ds with
  | .obj p, [d] => match S.get p with
    | some (.lst 0 xs) => match Nat.blt xs.length big with
      | true => .ok .non (S.put p (.lst 0 (xs ++ [d])))
      | false => .no
    | _ => .no
  | _, _ => .no
theorem blt_line {n : Nat} (h : Nat.blt n big = true) : n < sizeLine := by rw [Nat.blt_eq, big_eq] at h; exact h
/-- the list at p becomes another one -/
theorem put_lst {p : Po} {xs ys : List D} {vs ws : List V} (R : RS G ρ S H) (e : S.get p = some (.lst 0 xs)) (hv : H (ρ p) = some (.lst vs)) (r : RVs G ρ S H ys ws) :
    Ext ρ S H ρ (S.put p (.lst 0 ys)) (upd H (ρ p) (.lst ws)) ∧ RS G ρ (S.put p (.lst 0 ys)) (upd H (ρ p) (.lst ws)) :=
  wr_ob R e rfl rfl upd_some upd_else fun E => ⟨ws, upd_same, r.ext E R⟩
theorem mAppend_ok : ServesM G W rAppend mAppend := by
  intro σ ρ S H d ds x xs Q R rx rxs h
  unfold mAppend at h
  split at h
  · rename_i p d
    split at h
    · rename_i es e
      split at h
      · rename_i hz
        obtain ⟨y, rfl, ry⟩ := rxs.one_inv
        simp only [RV] at rx
        obtain ⟨rfl, _⟩ := rx
        obtain ⟨vs, t, q⟩ := R.ob p _ e
        obtain ⟨E, R2⟩ := put_lst R e t (q.app (RVs.one ry))
        exact ⟨ρ p, vs, y, rfl, rfl, t, by rw [q.length]; exact blt_line hz, h ρ _ E R2 .non (by simp only [RV])⟩
      · exact h.elim
    · exact h.elim
  · exact h.elim
def mInsert : MOp := fun x ds S => match x, ds with
  | .obj p, [.int (.ofNat i), d] => match S.get p with
    | some (.lst 0 xs) => match Nat.blt xs.length big && Nat.blt i (2 ^ 63) with
      | true => .ok .non (S.put p (.lst 0 (xs.take i ++ [d] ++ xs.drop i)))
      | false => .no
    | _ => .no
  | _, _ => .no
theorem mInsert_ok : ServesM G W (fun x vs H Q => ∃ (l : Addr) (xs : List V) (i : Int) (y : V), x = .ref l ∧ vs = [.int i, y] ∧ H l = some (.lst xs) ∧ xs.length < sizeLine ∧ 0 ≤ i ∧ i < 2 ^ 63 ∧
    Q .non (upd H l (.lst (xs.take i.toNat ++ [y] ++ xs.drop i.toNat)))) mInsert := by
  intro σ ρ S H d ds x xs Q R rx rxs h
  unfold mInsert at h
  split at h
  · rename_i p i d
    split at h
    · rename_i es e
      split at h
      · rename_i hz
        rw [Bool.and_eq_true] at hz
        obtain ⟨h1, h2⟩ := hz
        rw [Nat.blt_eq] at h2
        obtain ⟨y, z, rfl, ry, rz⟩ := rxs.two_inv
        simp only [RV] at rx ry
        obtain ⟨rfl, _⟩ := rx
        subst ry
        obtain ⟨vs, t, q⟩ := R.ob p _ e
        obtain ⟨E, R2⟩ := put_lst R e t (((q.take i).app (RVs.one rz)).app (q.drop i))
        have e0 : Int.ofNat i = (i : Int) := rfl
        exact ⟨ρ p, vs, _, z, rfl, rfl, t, by rw [q.length]; exact blt_line h1, by rw [e0]; omega, by rw [e0]; omega, h ρ _ E R2 .non (by simp only [RV])⟩
      · exact h.elim
    · exact h.elim
  · exact h.elim
/-! ### slices -/
def cutD {α : Type} (xs : List α) (lo hi : Option Int) : List α := (xs.drop (HT.sIx xs.length 0 lo)).take (HT.sIx xs.length xs.length hi - HT.sIx xs.length 0 lo)
abbrev Ov := Cal → Slots → Sto → Rs (Option Int)
def oNo : Ov := fun _ _ S => .ok none S
def oPart (v : Ev) : Ov := fun c env S => (v c env S).bind fun d S1 => match d with
  | .int i => .ok (some i) S1
  | _ => .no
def dCut (x : D) (l h : Option Int) (S : Sto) : Rs D := match x with
  | .tup w xs => match Nat.beq (HT.sIx xs.length 0 l) 0 && Nat.beq (HT.sIx xs.length xs.length h) xs.length with
    | true => .ok (.tup w xs) S
    | false => .ok (.tup true (cutD xs l h)) S
  | .str z => match Nat.ble z.length big with
    | true => .ok (.str (cutD z l h)) S
    | false => .no
  | .obj _ => match seqD x S with
    | some xs => mkO (.lst 0 (cutD xs l h)) S
    | none => .no
  | _ => .no
def eSl (a : Ev) (lo hi : Ov) : Ev := fun c env S => (a c env S).bind fun x S1 => (lo c env S1).bind fun l S2 => (hi c env S2).bind fun h S3 => dCut x l h S3
def ORel (Q : Option Int → Hp → Prop) : (Po → Addr) → Sto → Hp → Option Int → Prop := fun _ _ H o => Q o H
def tOv (G : GT) (W : WX') (c : Cal) (v : Ov) : TO := fun σ H Q => ∃ ρ S env, RS G ρ S H ∧ RE G ρ S H env σ ∧ PE1 G W (ORel Q) σ ρ S H (v c env S)
theorem po_imp {e : Option Expr} {t t' : TO} (h : PO X e t) (k : ∀ σ H Q, t' σ H Q → t σ H Q) : PO X e t' := ⟨fun pins s σ H Q I z => h.run pins s σ H Q I (k σ H Q z)⟩
theorem x_ono : PO X none (tOv G W c oNo) := po_imp po_none fun σ H Q ⟨ρ, S, env, R, _, h⟩ => h ρ H Ext.refl R
theorem x_opart {e : Expr} {v : Ev} (he : PE X e (tE G W c v)) : PO X (some e) (tOv G W c (oPart v)) := by
  refine po_imp (po_some he) fun σ H Q h => ?_
  obtain ⟨ρ, S, env, R, re, h⟩ := h
  refine ⟨ρ, S, env, R, re, PE1.bind h fun ρ1 S1 H1 d E1 R1 h1 x rx => ?_⟩
  cases d with
  | int i =>
    simp only [RV] at rx
    exact ⟨i, rx, h1 ρ1 H1 Ext.refl R1⟩
  | _ => exact h1.elim
theorem RVs.cut {ds : List D} {vs : List V} (r : RVs G ρ S H ds vs) (l h : Option Int) : RVs G ρ S H (cutD ds l h) (cutV vs l h) := by
  unfold cutD cutV
  rw [r.length]
  exact (r.drop _).take _
def rSlAll (K : PySem.W.Frag) : V → Option Int → Option Int → Hp → VK → Prop := fun x lo hi H Q => (rSlL K x lo hi H Q ∨ rSlA K x lo hi H Q) ∨ rSlS x lo hi H Q
theorem sl_all : SlR X (rSlAll X.K) := SlR.or (SlR.or sl_list sl_tupA) sl_str
theorem cutS_ok (z : List Nat) (l h : Option Int) : cutS (toS z) l h = toS (cutD z l h) := by
  refine TL.ext_tl ?_
  show ((toS z).cps.toList.drop (HT.sIx (toS z).length 0 l)).take (HT.sIx (toS z).length (toS z).length h - HT.sIx (toS z).length 0 l) = cutD z l h
  rw [toS_len, toS_cps]; rfl
theorem dCut_ok {d : D} {x : V} {l u : Option Int} {Q : VK} (R : RS G ρ S H) (r : RV G ρ S H d x) (h : PE1 G W (VRel G Q) σ ρ S H (dCut d l u S)) : rSlAll G.K x l u H Q := by
  unfold dCut at h
  split at h
  · rename_i w xs
    have r' := r
    simp only [RV] at r
    obtain ⟨a, vs, rfl, t, q⟩ := r
    refine .inl (.inr ⟨a, vs, rfl, t.1, fun hw => ?_, fun hw p hp => ?_⟩)
    · rw [q.length] at hw
      rw [hw.1, hw.2, show (Nat.beq 0 0 && Nat.beq xs.length xs.length) = true from by rw [Nat.beq_refl, Nat.beq_refl]; rfl] at h
      exact fine R h r'
    · rw [q.length] at hw
      cases z : Nat.beq (HT.sIx xs.length 0 l) 0 && Nat.beq (HT.sIx xs.length xs.length u) xs.length with
      | true =>
        rw [Bool.and_eq_true] at z
        exact absurd ⟨Nat.eq_of_beq_eq_true z.1, Nat.eq_of_beq_eq_true z.2⟩ hw
      | false =>
        rw [z] at h
        obtain ⟨E, R2, r2⟩ := new_tup R hp (q.cut l u)
        exact h _ _ E R2 _ r2
  · rename_i z
    split at h
    · rename_i hz
      simp only [RV] at r
      subst r
      exact .inr ⟨toS z, rfl, by rw [toS_len]; exact ble_line hz, fine R h (by simp only [RV]; rw [cutS_ok])⟩
    · exact h.elim
  · rename_i p
    split at h
    · rename_i xs e
      obtain ⟨a, vs, rfl, t, q⟩ := lstD_ok R r (ds := xs) e
      exact .inl (.inl ⟨a, vs, rfl, t, new_lst R (q.cut l u) h⟩)
    · exact h.elim
  · exact h.elim
theorem x_sl {e : Expr} {lo hi : Option Expr} {v : Ev} {vl vh : Ov} {p2 pos : Pos} (hK : X.K = G.K) (he : PE X e (tE G W c v)) (hl : PO X lo (tOv G W c vl)) (hh : PO X hi (tOv G W c vh)) :
    PE X (.Subscript e (.Slice lo hi none p2) pos) (tE G W c (eSl v vl vh)) := by
  refine pe_imp (pe_slice sl_all he hl hh) fun σ H Q h => ?_
  obtain ⟨ρ, S, env, R, re, h⟩ := h
  refine ⟨ρ, S, env, R, re, PE1.bind h fun ρ1 S1 H1 d E1 R1 h1 x rx => ?_⟩
  refine ⟨ρ1, S1, env, R1, re.ext E1 R, PE1.bind h1 fun ρ2 S2 H2 l E2 R2' h2 => ?_⟩
  refine ⟨ρ2, S2, env, R2', (re.ext E1 R).ext E2 R1, PE1.bind h2 fun ρ3 S3 H3 u E3 R3 h3 => ?_⟩
  rw [hK]
  exact dCut_ok R3 ((rx.ext E2 R1).ext E3 R2') h3
end
end Ev
set_option Elab.async false
set_option linter.all false
set_option maxRecDepth 100000
namespace Ev
open PySem PySem.Spec PyProof.Rows L2
/-! ### targets -/
abbrev Gv := D → Slots → Sto → Option (Slots × Sto)
def gN (i : Nat) : Gv := fun d env S => some (env.set i (some d), S)
def gSeq : List Gv → List D → Slots → Sto → Option (Slots × Sto)
  | [], [], env, S => some (env, S)
  | g :: gs, d :: ds, env, S => match g d env S with
    | some (e, S1) => gSeq gs ds e S1
    | none => none
  | _, _, _, _ => none
def gT (gs : List Gv) : Gv := fun d env S => match d with
  | .tup _ xs => gSeq gs xs env S
  | _ => none
/-- a, b, *rest -/
def gStar (gs : List Gv) (g : Gv) : Gv := fun d env S => match seqD d S with
  | some xs => match Nat.ble gs.length xs.length && Nat.ble xs.length 16000 with
    | true => match mkO (.lst 0 (xs.drop gs.length)) S with
      | .ok l S1 => gSeq (gs ++ [g]) (xs.take gs.length ++ [l]) env S1
      | _ => none
    | false => none
  | none => none
/-- what of the slots stays -/
structure Fram where
  r : L2.St → L2.St → Prop
  rf : ∀ a, r a a
  tr : ∀ a b c, r a b → r b c → r a c
def Fram.any : Fram := ⟨fun _ _ => True, fun _ => trivial, fun _ _ _ _ _ => trivial⟩
/-- all but these -/
def Fram.wp (vs : List Nat) : Fram := ⟨fun a b => wipe b vs = wipe a vs, fun _ => rfl, fun _ _ _ h k => k.trans h⟩
theorem wipe_set {i : Nat} {v : Option V} : ∀ {vs : List Nat} {a : L2.St}, i ∈ vs → wipe (a.set i v) vs = wipe a vs
  | [], _, h => absurd h List.not_mem_nil
  | j :: vs, a, h => by
    unfold wipe
    by_cases e : i ∈ vs
    · rw [wipe_set e]
    · have ej : i = j := (List.mem_cons.mp h).resolve_right e
      subst ej
      have z : ∀ {ws : List Nat} {b : L2.St}, i ∉ ws → wipe (b.set i v) ws = (wipe b ws).set i v := by
        intro ws
        induction ws with
        | nil => intro b _; rfl
        | cons k ws ih =>
          intro b hk
          have hk1 : i ≠ k := fun q => hk (by rw [q]; exact List.mem_cons_self)
          show (wipe (b.set i v) ws).set k none = ((wipe b ws).set k none).set i v
          rw [ih fun q => hk (List.mem_cons_of_mem _ q), List.set_comm _ _ hk1]
      rw [z e, List.set_set]
def PG1 (G : GT) (F : Fram) (σ0 : L2.St) (Q : L2.St → Hp → Prop) (ρ : Po → Addr) (S : Sto) (H : Hp) : Option (Slots × Sto) → Prop
  | some (env, S') => ∀ ρ' H' σ, Ext ρ S H ρ' S' H' → RS G ρ' S' H' → RE G ρ' S' H' env σ → F.r σ0 σ → Q σ H'
  | none => False
def tG (G : GT) (F : Fram) (g : Gv) : TG := fun v σ H Q => ∃ ρ S env d, RS G ρ S H ∧ RE G ρ S H env σ ∧ RV G ρ S H d v ∧ PG1 G F σ Q ρ S H (g d env S)
def tGs (G : GT) (F : Fram) (gs : List Gv) : TGs := fun vs σ H Q => ∃ ρ S env ds, RS G ρ S H ∧ RE G ρ S H env σ ∧ RVs G ρ S H ds vs ∧ PG1 G F σ Q ρ S H (gSeq gs ds env S)
section
variable {G : GT} {W : WX'} {c : Cal} {ρ ρ' : Po → Addr} {S S' : Sto} {H H' : Hp} {σ : List (Option V)} {X : Cx} {env : Slots} {F : Fram}
theorem PG1.later {Q : L2.St → Hp → Prop} {σ0 σ1 : L2.St} {r : Option (Slots × Sto)} (E : Ext ρ S H ρ' S' H') (f : F.r σ0 σ1) (h : PG1 G F σ0 Q ρ S H r) : PG1 G F σ1 Q ρ' S' H' r := by
  cases r with
  | none => exact h
  | some p => exact fun ρ1 H1 s E1 R1 re1 f1 => h ρ1 H1 s (E.trans E1) R1 re1 (F.tr _ _ _ f f1)
theorem pg_imp {e : Expr} {t t' : TG} (h : PG X e t) (k : ∀ v σ H Q, t' v σ H Q → t v σ H Q) : PG X e t' := ⟨fun pins s σ H v u Q I r z => h.run pins s σ H v u Q I r (k v σ H Q z)⟩
theorem pgs_imp {e : List Expr} {t t' : TGs} (h : PGs X e t) (k : ∀ v σ H Q, t' v σ H Q → t v σ H Q) : PGs X e t' := ⟨fun pins s σ H v u Q I r z => h.run pins s σ H v u Q I r (k v σ H Q z)⟩
theorem x_gname {i : Nat} {x : Str} {pos : Pos} (hN : X.N.Nodup) (hi : X.N[i]? = some x) (hx : Loc X.env.scope x) (hf : X.fn x = true ∨ X.env.scope.names.lookup x = some .local := by first | exact .inl rfl | exact .inr rfl | assumption) (hF : ∀ a v, F.r a (a.set i (some v)) := by first | exact fun _ _ => trivial | exact fun _ _ => wipe_set (by decide)) : PG X (.Name x pos) (tG G F (gN i)) :=
  pg_imp (pg_name hN hi hx hf) fun v σ H Q ⟨ρ, S, env, d, R, re, rv, h⟩ => h ρ H _ Ext.refl R (re.set rv) (hF _ _)
theorem x_gsnil : PGs X [] (tGs G F []) := pgs_imp pgs_nil fun vs σ H Q ⟨ρ, S, env, ds, R, re, rv, h⟩ => by
  cases ds with
  | nil =>
    simp only [RVs] at rv
    exact ⟨rv, h ρ H σ Ext.refl R re (F.rf _)⟩
  | cons d ds => exact h.elim
theorem x_gscons {e : Expr} {es : List Expr} {g : Gv} {gs : List Gv} (h1 : PG X e (tG G F g)) (h2 : PGs X es (tGs G F gs)) (hs : (assignEach (e :: es) X.env).map (·.2) = assign e X.env :: (assignEach es X.env).map (·.2) := by rfl) : PGs X (e :: es) (tGs G F (g :: gs)) :=
  pgs_imp (pgs_cons h1 h2 hs) fun vs σ H Q ⟨ρ, S, env, ds, R, re, rv, h⟩ => by
    cases ds with
    | nil => exact h.elim
    | cons d ds =>
      simp only [RVs] at rv
      obtain ⟨v, r, rfl, r1, r2⟩ := rv
      refine ⟨v, r, rfl, ρ, S, env, d, R, re, r1, ?_⟩
      unfold gSeq at h
      cases z : g d env S with
      | none => rw [z] at h; exact h.elim
      | some p =>
        obtain ⟨e1, S1⟩ := p
        rw [z] at h
        exact fun ρ1 H1 s E1 R1 re1 f1 => ⟨ρ1, S1, e1, ds, R1, re1, r2.ext E1 R, PG1.later E1 f1 h⟩
theorem gSeq_len {r : Slots × Sto} : ∀ {gs : List Gv} {ds : List D} {env : Slots} {S : Sto}, gSeq gs ds env S = some r → ds.length = gs.length
  | [], [], _, _, _ => rfl
  | [], _ :: _, _, _, h => by cases h
  | _ :: _, [], _, _, h => by cases h
  | g :: gs, d :: ds, env, S, h => by
    unfold gSeq at h
    split at h
    · rw [List.length_cons, List.length_cons, gSeq_len h]
    · cases h
theorem x_gtup {es : List Expr} {k : Nat} {gs : List Gv} {pos : Pos} (hK : X.K = G.K) (hc : X.calm = true) (h : PGs X es (tGs G F gs)) (hn : (assignEach es X.env).length = gs.length := by rfl) (hst : (assignEach es X.env).findIdx? (·.1) = none := by rfl) :
    PG X (.Tuple es k pos) (tG G F (gT gs)) :=
  pg_imp (pg_tup hc h hn hst) fun v σ H Q ⟨ρ, S, env, d, R, re, rv, h⟩ => by
    unfold gT at h
    split at h
    · rename_i w xs
      simp only [RV] at rv
      obtain ⟨a, vs, rfl, t, r⟩ := rv
      cases z : gSeq gs xs env S with
      | none => rw [z] at h; exact h.elim
      | some p => exact ⟨a, vs, rfl, by rw [hK]; exact t.1, by rw [r.length]; exact gSeq_len z, ρ, S, env, xs, R, re, r, h⟩
    · exact h.elim

/-! ### a, b, *rest = .. -/
/-- what a starred target asks, by values: a sequence of n items at least; the rest is a new list -/
def gStarV (K : PySem.W.Frag) (n : Nat) (t : TGs) : TG := fun v σ H Q => ∃ a xs, v = .ref a ∧ (SqL K H a xs ∨ SqT K H a xs) ∧ n ≤ xs.length ∧ xs.length ≤ 16000 ∧ ∀ l, H l = none → t (xs.take n ++ [.ref l]) σ (upd H l (.lst (xs.drop n))) Q
theorem pg_star {es : List Expr} {k : Nat} {t : TGs} {n : Nat} {pos : Pos} (hc : X.calm = true) (h : PGs X es t)
    (hn : (assignEach es X.env).length = n + 1 := by rfl) (hst : (assignEach es X.env).findIdx? (·.1) = some n := by rfl) : PG X (.Tuple es k pos) (gStarV X.K n t) := by
  refine ⟨fun pins s σ H v u Q I r hw => ?_⟩
  obtain ⟨a, xs, ev, hq, hl, hz, hw⟩ := hw
  subst ev
  cases r
  rw [assign_Tuple]
  refine wpAny_bind (wpAny_standAt ?_)
  unfold unpack
  rw [hn, hst]
  -- the parts are drawn
  have fin : ∀ (its : List Value) (s2 : Shared) (tk : Nat) (h2 : Heap), Vals xs its → (∀ b o, s.heap.get? b = some o → h2.get? b = some o) → s2 = { s with heap := h2, toks := tk } → its.length = xs.length →
      wpAny (model X.prog X.w) X.A (newList ((its.drop n).take ((its.drop n).length - (n + 1 - 1 - n))) >>= fun d => pure (its.take n ++ [d] ++ (its.drop n).drop ((its.drop n).length - (n + 1 - 1 - n))))
        (fun us s3 => wpAny (model X.prog X.w) X.A (assignInOrder ((assignEach es X.env).map (·.2)) us) (fun _ s' => ∃ σ' H', Inv X pins σ' H' s' ∧ Q σ' H') X.xe s3) X.xe s2 := by
    intro its s2 tk h2 rv kp e2 e3
    subst e2
    have J : Inv X pins σ H { s with heap := h2, toks := tk } := I.kept kp
    have e4 : (its.drop n).length - (n + 1 - 1 - n) = (its.drop n).length := by omega
    rw [e4, List.take_of_length_le (Nat.le_refl _), List.drop_length]
    refine wpAny_bind ?_
    unfold newList
    refine wpAny_newObj_type (wpAny_pure ?_) (by show (its.drop n).toArray.size ≤ sizeLine; rw [List.size_toArray, List.length_drop, sizeLine_eq]; omega)
    have hp := J.hok.fresh (Nat.le_refl _)
    have rd : Vals (xs.drop n) (its.drop n) := rv.drop n
    have J2 := J.laid (t' := tk) (o := .lst (xs.drop n)) (h' := h2.push { cls := .type "list", data := .seq (its.drop n).toArray }) (fun b o e => Heap.get?_push_of_some _ e) (Nat.le_refl _)
      ⟨by rw [List.length_drop, sizeLine_eq]; omega, its.drop n, _, rd, Heap.get?_push_size _ rfl⟩
    show wpAny _ _ (assignInOrder ((assignEach es X.env).map (·.2)) (its.take n ++ [Value.ref h2.objs.size] ++ [])) _ _ _
    rw [List.append_nil]
    exact h.run pins _ σ _ (xs.take n ++ [.ref h2.objs.size]) _ Q J2 ((rv.take n).append (Paired.cons (show RelV (V.ref h2.objs.size) (Value.ref h2.objs.size) from rfl) .nil)) (hw _ hp)
  rcases hq with hq | hq
  · obtain ⟨its, rv, pl, _⟩ := I.list hq
    have hls := pl.isList
    have hlen : its.length = xs.length := rv.length.symm
    have hlt : a ≠ s.heap.objs.size := by obtain ⟨o, ho, _⟩ := id hls; exact Nat.ne_of_lt (Heap.lt_size ho)
    refine wpAny_bind (wpAny_holding ?_)
    unfold unpackItems
    refine wpAny_bind ?_
    unfold notIterableAtAll
    refine wpAny_bind (wpAny_specialOf hls.typeIs PySem.slot_list_iter.lookup ?_)
    refine wpAny_pure ?_
    simp only [Bool.false_eq_true, if_false]
    refine wpAny_bind (wpAny_holding (wpAny_pyIter_list hls ?_))
    refine wpAny_bind (wpAny_holding (PySem.W.kun_draw hlt n 0 _ _ ⟨_, Heap.get?_push_size _ rfl, rfl, rfl⟩ (hls.push _) (by rw [List.size_toArray]; omega) fun h₁ hit₁ hs₁ => ?_))
    have hl₁ := (hls.push { cls := .type "list_iterator", data := .fields #[.ref a, .int 0 0] }).extBut hs₁.extBut hlt
    rw [Nat.zero_add] at hit₁
    obtain ⟨oi, hoi, _⟩ := id hit₁
    obtain ⟨ol, hol, _⟩ := id hl₁
    rw [List.drop_zero, List.toList_toArray, if_neg (show ¬ ((its.take n).length < n) by rw [List.length_take]; omega)]
    refine wpAny_bind (wpAny_holding (PySem.W.kun_collect (s := { s with heap := h₁ }) (T := "list_iterator") (.inr (.inr (.inl rfl))) (Walks.list (A := X.A.in1) (I.ok.hd hc) s.heap.objs.size a hlt its.toArray) (fun j u st => st.1.typeIs) (k := n) (by rw [List.size_toArray]; omega) ⟨hit₁, hl₁⟩
      (Heap.lt_size hoi) (Heap.lt_size hol) (fun h₂ tk hk => ?_) (by rw [List.size_toArray, sizeLine_eq]; omega)))
    rw [List.toList_toArray]
    rw [if_neg (show ¬ ((its.drop n).length < n + 1 - 1 - n) by omega)]
    exact fin its _ tk h₂ rv (fun b o e => hk b o (Nat.ne_of_lt (Heap.lt_size e)) (hs₁.extBut b o (Nat.ne_of_lt (Heap.lt_size e)) (Heap.get?_push_of_some _ e))) rfl hlen
  · obtain ⟨its, rv, ht, _⟩ := I.tuple hq
    have hlen : its.length = xs.length := rv.length.symm
    have hlt : a ≠ s.heap.objs.size := by obtain ⟨o, ho, _⟩ := id ht; exact Nat.ne_of_lt (Heap.lt_size ho)
    refine wpAny_bind (wpAny_holding ?_)
    unfold unpackItems
    refine wpAny_bind ?_
    unfold notIterableAtAll
    refine wpAny_bind (wpAny_specialOf ht.typeIs PyProof.Rows.slot_tuple_iter.lookup ?_)
    refine wpAny_pure ?_
    simp only [Bool.false_eq_true, if_false]
    refine wpAny_bind (wpAny_holding (iter_tuple ht ?_))
    refine wpAny_bind (wpAny_holding (draw_tuple hlt n 0 _ _ ⟨_, Heap.get?_push_size _ rfl, rfl, rfl⟩ (ht.push _) (by rw [List.size_toArray]; omega) fun h₁ hit₁ hs₁ => ?_))
    have hl₁ : IsTup h₁ a its.toArray := (ht.push _).extBut hs₁.extBut hlt
    rw [Nat.zero_add] at hit₁
    obtain ⟨oi, hoi, _⟩ := id hit₁
    obtain ⟨ol, hol, _⟩ := id hl₁
    rw [List.drop_zero, List.toList_toArray, if_neg (show ¬ ((its.take n).length < n) by rw [List.length_take]; omega)]
    refine wpAny_bind (wpAny_holding (PySem.W.kun_collect (s := { s with heap := h₁ }) (T := "tuple_iterator") (.inr (.inr (.inr rfl))) (Walks.tuple (A := X.A.in1) (I.ok.hd hc) s.heap.objs.size a hlt its.toArray) (fun j u st => st.1.typeIs) (k := n) (by rw [List.size_toArray]; omega) ⟨hit₁, hl₁⟩
      (Heap.lt_size hoi) (Heap.lt_size hol) (fun h₂ tk hk => ?_) (by rw [List.size_toArray, sizeLine_eq]; omega)))
    rw [List.toList_toArray]
    rw [if_neg (show ¬ ((its.drop n).length < n + 1 - 1 - n) by omega)]
    exact fin its _ tk h₂ rv (fun b o e => hk b o (Nat.ne_of_lt (Heap.lt_size e)) (hs₁.extBut b o (Nat.ne_of_lt (Heap.lt_size e)) (Heap.get?_push_of_some _ e))) rfl hlen
theorem x_gsstar {e : Expr} {es : List Expr} {g : Gv} {gs : List Gv} {p : Pos} (h1 : PG X e (tG G F g)) (h2 : PGs X es (tGs G F gs)) (hs : (assignEach (.Starred e p :: es) X.env).map (·.2) = assign e X.env :: (assignEach es X.env).map (·.2) := by rfl) : PGs X (.Starred e p :: es) (tGs G F (g :: gs)) := by
  refine ⟨fun pins s σ H vs us Q I r h => ?_⟩
  obtain ⟨ρ, S, env, ds, R, re, rv, h⟩ := h
  cases ds with
  | nil => exact h.elim
  | cons d ds =>
    simp only [RVs] at rv
    obtain ⟨v, vr, rfl, r1, r2⟩ := rv
    cases r with
    | cons q1 q2 =>
      rw [hs]
      unfold gSeq at h
      cases z : g d env S with
      | none => rw [z] at h; exact h.elim
      | some pr =>
        obtain ⟨e1, S1⟩ := pr
        rw [z] at h
        refine assignInOrder_cons (thn (h1.run pins s σ H v _ (fun σ1 H1 => tGs G F gs vr σ1 H1 Q) I q1 ⟨ρ, S, env, d, R, re, r1, ?_⟩) fun _ s1 ⟨σ1, H1, I1, w⟩ => h2.run pins s1 σ1 H1 vr _ Q I1 q2 w)
        rw [z]
        exact fun ρ1 H1 s E1 R1 re1 f1 => ⟨ρ1, S1, e1, ds, R1, re1, r2.ext E1 R, PG1.later E1 f1 h⟩
theorem x_gstar {es : List Expr} {k : Nat} {gs : List Gv} {g : Gv} {pos : Pos} (hK : X.K = G.K) (hc : X.calm = true) (h : PGs X es (tGs G F (gs ++ [g]))) (hn : (assignEach es X.env).length = gs.length + 1 := by rfl) (hst : (assignEach es X.env).findIdx? (·.1) = some gs.length := by rfl) :
    PG X (.Tuple es k pos) (tG G F (gStar gs g)) :=
  pg_imp (pg_star hc h hn hst) fun v σ H Q ⟨ρ, S, env, d, R, re, rv, h⟩ => by
    unfold gStar at h
    split at h
    · rename_i xs e1
      split at h
      · rename_i hl
        rw [Bool.and_eq_true] at hl
        obtain ⟨a, vs, rfl, t, r⟩ := seqD_ok R rv e1
        have l1 := Nat.le_of_ble_eq_true hl.1
        have l2 := Nat.le_of_ble_eq_true hl.2
        refine ⟨a, vs, rfl, by rw [hK]; exact t.imp (·.1) (·.1), by rw [r.length]; exact l1, by rw [r.length]; exact l2, fun l hln => ?_⟩
        unfold mkO at h
        cases z : S.get S.nx with
        | some o => rw [z] at h; exact h.elim
        | none =>
          rw [z] at h
          obtain ⟨E, R2, r2⟩ := new_ob (o := .lst 0 (xs.drop gs.length)) (H' := upd H l (.lst (vs.drop gs.length))) R z hln (upd_keeps hln) fun E => ⟨_, upd_same, (r.drop _).ext E R⟩
          exact ⟨_, _, env, xs.take gs.length ++ [.obj S.nx], R2, re.ext E R, ((r.take _).ext E R).app (RVs.one r2), PG1.later E (F.rf _) h⟩
      · exact h.elim
    · exact h.elim
end
end Ev
set_option Elab.async false
set_option linter.all false
set_option maxRecDepth 100000
namespace Ev
open PySem PySem.Spec PyProof.Rows L2
/-! ### statements -/
def Rs.bindS {α : Type} (r : Rs α) (env : Slots) (f : α → Sto → Rt) : Rt := match r with
  | .ok a S => f a S
  | .ex c fs S => .ex c fs env S
  | .no => .no
def sNil : Sv := fun _ env S => .nx env S
def sSeq (a b : Sv) : Sv := fun c env S => match a c env S with
  | .nx env1 S1 => b c env1 S1
  | r => r
def sSet (g : Gv) (e : Ev) : Sv := fun c env S => (e c env S).bindS env fun d S1 => match g d env S1 with
  | some (env1, S2) => .nx env1 S2
  | none => .no
def sIf (t : Tv) (a b : Sv) : Sv := fun c env S => (t c env S).bindS env fun k S1 => match k with
  | true => a c env S1
  | false => b c env S1
def sRet (e : Ev) : Sv := fun c env S => (e c env S).bindS env fun d S1 => .rt d S1
def sRetN : Sv := fun _ _ S => .rt .non S
def sX (e : Ev) : Sv := fun c env S => (e c env S).bindS env fun _ S1 => .nx env S1
def sBk : Sv := fun _ env S => .bk env S
def sCt : Sv := fun _ env S => .ct env S
section
variable {G : GT} {W : WX'} {c : Cal} {ρ ρ' : Po → Addr} {S S' : Sto} {H H' : Hp} {σ : List (Option V)} {X : Cx} {env : Slots} {F : Fram}
theorem PS1.bind {α : Type} {D' : Ends} {Rel : (Po → Addr) → Sto → Hp → α → Prop} {r : Rs α} {f : α → Sto → Rt} (h : PS1 G W D' ρ S H (r.bindS env f)) (re : RE G ρ S H env σ) (R : RS G ρ S H)
    (q : ∀ ρ1 S1 H1 a, Ext ρ S H ρ1 S1 H1 → RS G ρ1 S1 H1 → PS1 G W D' ρ1 S1 H1 (f a S1) → Rel ρ1 S1 H1 a) : PE1 G W Rel σ ρ S H r := by
  cases r with
  | ok a S1 => exact fun ρ1 H1 E1 R1 => q ρ1 S1 H1 a E1 R1 (PS1.later E1 h)
  | ex k fs S1 => exact fun ρ1 H1 d E1 R1 x => h σ ρ1 H1 d E1 R1 (re.ext E1 R) x
  | no => exact h
theorem x_nil : PSs X [] (tS G W c sNil) := pss_imp pss_nil fun D σ H ⟨ρ, S, env, R, re, h⟩ => h ρ H σ Ext.refl R re
theorem x_cons {st : Stmt} {rest : List Stmt} {a b : Sv} (ha : PS X st (tS G W c a)) (hb : PSs X rest (tS G W c b)) : PSs X (st :: rest) (tS G W c (sSeq a b)) := by
  refine pss_imp (pss_cons ha hb) fun D σ H h => ?_
  obtain ⟨ρ, S, env, R, re, h⟩ := h
  refine ⟨ρ, S, env, R, re, ?_⟩
  unfold sSeq at h
  cases z : a c env S with
  | nx e1 S1 =>
    rw [z] at h
    exact fun ρ1 H1 s E1 R1 re1 => ⟨ρ1, S1, e1, R1, re1, PS1.later E1 h⟩
  | rt d S1 => rw [z] at h; exact h
  | bk e1 S1 => rw [z] at h; exact h
  | ct e1 S1 => rw [z] at h; exact h
  | ex k fs e1 S1 => rw [z] at h; exact h
  | no => rw [z] at h; exact h
theorem x_pass {pos : Pos} : PS X (.Pass pos) (tS G W c sNil) := ps_imp ps_pass fun D σ H ⟨ρ, S, env, R, re, h⟩ => h ρ H σ Ext.refl R re
theorem x_break {pos : Pos} : PS X (.Break pos) (tS G W c sBk) := ps_imp ps_break fun D σ H ⟨ρ, S, env, R, re, h⟩ => h ρ H σ Ext.refl R re
theorem x_continue {pos : Pos} : PS X (.Continue pos) (tS G W c sCt) := ps_imp ps_continue fun D σ H ⟨ρ, S, env, R, re, h⟩ => h ρ H σ Ext.refl R re
theorem x_asg {tg e : Expr} {v : Ev} {g : Gv} {pos : Pos} (he : PE X e (tE G W c v)) (hg : PG X tg (tG G Fram.any g)) (hs : swapsWithSole [tg] e pos.line X.env = pure false := by rfl) (hw : swappedStores [tg] e X.env = pure none := by rfl)
    (h1 : (assignEach [tg] X.env).map (·.2) = [assign tg X.env] := by rfl) : PS X (.Assign [tg] e pos) (tS G W c (sSet g v)) := by
  refine ps_imp (ps_asg he hg hs hw h1) fun D σ H h => ?_
  obtain ⟨ρ, S, env, R, re, h⟩ := h
  refine ⟨ρ, S, env, R, re, PS1.bind h re R fun ρ1 S1 H1 d E1 R1 h1 x rx => ?_⟩
  refine ⟨ρ1, S1, env, d, R1, re.ext E1 R, rx, ?_⟩
  cases z : g d env S1 with
  | none => rw [z] at h1; exact h1.elim
  | some p =>
    rw [z] at h1
    exact fun ρ2 H2 s E2 R2' re2 _ => h1 ρ2 H2 s E2 R2' re2
theorem x_set {i : Nat} {x : Str} {e : Expr} {v : Ev} {pos' pos : Pos} (hN : X.N.Nodup) (hi : X.N[i]? = some x) (hx : Loc X.env.scope x) (he : PE X e (tE G W c v)) (hs : swapsWith e (some (.Name x pos')) pos.line X.env = pure false := by rfl)
    (hf : X.fn x = true ∨ X.env.scope.names.lookup x = some .local := by first | exact .inl rfl | exact .inr rfl | assumption) : PS X (.Assign [.Name x pos'] e pos) (tS G W c (sSet (gN i) v)) := by
  refine ps_imp (ps_set hN hi hx he hs hf) fun D σ H h => ?_
  obtain ⟨ρ, S, env, R, re, h⟩ := h
  refine ⟨ρ, S, env, R, re, PS1.bind h re R fun ρ1 S1 H1 d E1 R1 h1 x rx => ?_⟩
  exact h1 ρ1 H1 _ Ext.refl R1 ((re.ext E1 R).set rx)
theorem x_if' {c' : Expr} {a b : List Stmt} {t : Tv} {va vb : Sv} {pos : Pos} (ht : PT X c' (tT G W c t)) (ha : PSs X a (tS G W c va)) (hb : PSs X b (tS G W c vb)) : PS X (.If c' a b pos) (tS G W c (sIf t va vb)) := by
  refine ps_imp (ps_if ht ha hb) fun D σ H h => ?_
  obtain ⟨ρ, S, env, R, re, h⟩ := h
  refine ⟨ρ, S, env, R, re, PS1.bind h re R fun ρ1 S1 H1 k E1 R1 h1 => ?_⟩
  cases k with
  | true => exact (by (try unfold BRel); (try dsimp only); rw [if_pos rfl]; exact ⟨ρ1, S1, env, R1, re.ext E1 R, h1⟩)
  | false => exact (by (try unfold BRel); (try dsimp only); rw [if_neg Bool.false_ne_true]; exact ⟨ρ1, S1, env, R1, re.ext E1 R, h1⟩)
theorem x_ret {e : Expr} {v : Ev} {pos : Pos} (he : PE X e (tE G W c v)) : PS X (.Return (some e) pos) (tS G W c (sRet v)) := by
  refine ps_imp (ps_ret he) fun D σ H h => ?_
  obtain ⟨ρ, S, env, R, re, h⟩ := h
  refine ⟨ρ, S, env, R, re, PS1.bind h re R fun ρ1 S1 H1 d E1 R1 h1 x rx => ?_⟩
  exact h1 ρ1 H1 x Ext.refl R1 rx
theorem x_retN {pos : Pos} : PS X (.Return none pos) (tS G W c sRetN) := ps_imp ps_retN fun D σ H ⟨ρ, S, env, R, re, h⟩ => h ρ H .non Ext.refl R (by simp only [RV])
theorem x_expr {e : Expr} {v : Ev} {pos : Pos} (he : PE X e (tE G W c v)) (hs : swapsWith e none pos.line X.env = pure false := by rfl) : PS X (.Expr e pos) (tS G W c (sX v)) := by
  refine ps_imp (ps_expr he hs) fun D σ H h => ?_
  obtain ⟨ρ, S, env, R, re, h⟩ := h
  refine ⟨ρ, S, env, R, re, PS1.bind h re R fun ρ1 S1 H1 d E1 R1 h1 x rx => ?_⟩
  exact h1 ρ1 H1 _ Ext.refl R1 (re.ext E1 R)
end
/-! ### what a loop walks -/
inductive Iz where
  | tup (xs : List D) | lst (p : Po) | rng (lo : Int) (n : Nat) | chs (l : List Nat) | enm (p : Po) | zp (p q : Po)
/-- the i-th item: none: not known; some none: the end -/
def Iz.at (z : Iz) (i : Nat) (S : Sto) : Option (Option D) := match z with
  | .tup xs => some xs[i]?
  | .lst p => match seqD (.obj p) S with
    | some xs => some xs[i]?
    | none => none
  | .rng lo n => match Nat.blt i n with
    | true => some (some (.int (lo + (i : Nat))))
    | false => some none
  | .chs l => match l[i]? with
    | some a => some (some (.str [a]))
    | none => some none
  | .enm p => match seqD (.obj p) S with
    | some xs => match xs[i]? with
      | some d => some (some (.tup true [.int (.ofNat i), d]))
      | none => some none
    | none => none
  | .zp p q => match seqD (.obj p) S with
    | some xs => match seqD (.obj q) S with
      | some ys => match xs[i]? with
        | some d => match ys[i]? with
          | some e => some (some (.tup true [d, e]))
          | none => some none
        | none => some none
      | none => none
    | none => none
/-- turns that will do -/
def Iz.fuel (z : Iz) (S : Sto) : Nat := match z with
  | .tup xs => xs.length + 1
  | .lst p => ((seqD (.obj p) S).getD []).length + 1
  | .rng _ n => n + 1
  | .chs l => l.length + 1
  | .enm p => ((seqD (.obj p) S).getD []).length + 1
  | .zp p _ => ((seqD (.obj p) S).getD []).length + 1
abbrev Iv := Cal → Slots → Sto → Rs Iz
/-- z tells what J gives -/
def ZR (G : GT) (ρ0 : Po → Addr) (S0 : Sto) (H0 : Hp) (z : Iz) (J : It) : Prop := ∀ i ρ S H, Ext ρ0 S0 H0 ρ S H → RS G ρ S H → match z.at i S with
  | none => True
  | some none => J.stop i H
  | some (some d) => J.go i H ∧ ∀ x H', J.yld i H x H' → Ext ρ S H ρ S H' ∧ RS G ρ S H' ∧ RV G ρ S H' d x
def tI (G : GT) (W : WX') (c : Cal) (v : Iv) : TI := fun σ H Q => ∃ ρ S env, RS G ρ S H ∧ RE G ρ S H env σ ∧ PE1 G W (fun ρ S H z => ∀ J, ZR G ρ S H z J → Q J H) σ ρ S H (v c env S)
/-- the items of a value: a tuple, a text, a list -/
def iVal (v : Ev) : Iv := fun c env S => (v c env S).bind fun d S1 => match d with
  | .tup _ xs => .ok (.tup xs) S1
  | .str l => .ok (.chs l) S1
  | .obj p => match seqD (.obj p) S1 with
    | some _ => .ok (.lst p) S1
    | none => .no
  | _ => .no
def smallI (i : Int) : Bool := Nat.blt i.natAbs (2 ^ 61)
def iRange (a : Av) : Iv := fun c env S => (a c env S).bind fun ds S1 => match ds with
  | [.int j] => match smallI j with
    | true => .ok (.rng 0 j.toNat) S1
    | false => .no
  | _ => .no
def iRange2 (a : Av) : Iv := fun c env S => (a c env S).bind fun ds S1 => match ds with
  | [.int i, .int j] => match smallI i && smallI j with
    | true => .ok (.rng i (j - i).toNat) S1
    | false => .no
  | _ => .no
def iEnm (a : Av) : Iv := fun c env S => (a c env S).bind fun ds S1 => match ds with
  | [.obj p] => match seqD (.obj p) S1 with
    | some _ => .ok (.enm p) S1
    | none => .no
  | _ => .no
def iZp (a : Av) : Iv := fun c env S => (a c env S).bind fun ds S1 => match ds with
  | [.obj p, .obj q] => match seqD (.obj p) S1 with
    | some _ => match seqD (.obj q) S1 with
      | some _ => .ok (.zp p q) S1
      | none => .no
    | none => .no
  | _ => .no
section
variable {G : GT} {W : WX'} {c : Cal} {ρ ρ' : Po → Addr} {S S' : Sto} {H H' : Hp} {σ : List (Option V)} {X : Cx} {env : Slots} {F : Fram}
theorem pi_imp {tg e : Expr} {t t' : TI} (h : PI X tg e t) (k : ∀ σ H Q, t' σ H Q → t σ H Q) : PI X tg e t' := ⟨fun pins s σ H R I z => h.run pins s σ H R I (k σ H R z)⟩
theorem pi_or {tg e : Expr} {t t' : TI} (h : PI X tg e t) (h' : PI X tg e t') : PI X tg e (fun σ H Q => t σ H Q ∨ t' σ H Q) := ⟨fun pins s σ H R I z => z.elim (h.run pins s σ H R I) (h'.run pins s σ H R I)⟩
/-- the list at p as the store has it now -/
theorem lst_now {p : Po} {xs : List D} (R : RS G ρ S H) (e : seqD (.obj p) S = some xs) : ∃ vs, SqL G.K H (ρ p) vs ∧ RVs G ρ S H xs vs := by
  simp only [seqD] at e
  split at e
  · rename_i k ys z
    cases e
    obtain ⟨vs, t, q⟩ := R.ob p _ z
    exact ⟨vs, .inl (.inl t), q⟩
  · rename_i ys z
    cases e
    obtain ⟨vs, t, q⟩ := R.ob p _ z
    exact ⟨vs, t.sq, q⟩
  · cases e
theorem obj_some {p : Po} {xs : List D} (e : seqD (.obj p) S = some xs) : ∃ o, S.get p = some o := by
  simp only [seqD] at e
  split at e
  · exact ⟨_, by assumption⟩
  · exact ⟨_, by assumption⟩
  · cases e
/-- a list told by values has one content -/
def OneL (K : PySem.W.Frag) (H : Hp) (a : Addr) : Prop := ∀ xs ys, SqL K H a xs → SqL K H a ys → xs = ys
theorem zr_lst {p : Po} {xs : List D} (e : seqD (.obj p) S = some xs) : ZR G ρ S H (.lst p) (Itl G.K (ρ p)) := by
  intro i ρ1 S1 H1 E R
  obtain ⟨o, hp⟩ := obj_some e
  have ea : ρ1 p = ρ p := E.re p o hp
  simp only [Iz.at]
  cases z : seqD (.obj p) S1 with
  | none => trivial
  | some ys =>
    obtain ⟨vs, t, q⟩ := lst_now R z
    rw [ea] at t
    dsimp only
    cases hx : ys[i]? with
    | none =>
      have := q.length
      exact ⟨vs, t, by rw [this]; exact List.getElem?_eq_none_iff.mp hx⟩
    | some d =>
      obtain ⟨v, h1, h2⟩ := q.get hx
      refine ⟨⟨vs, v, t, h1⟩, fun x H' y => ?_⟩
      obtain ⟨rfl, y⟩ := y
      have := y vs t
      rw [h1] at this
      cases this
      exact ⟨Ext.refl, R, h2⟩
theorem zr_tup {w : Bool} {xs : List D} {a : Addr} {vs : List V} (R : RS G ρ S H) (t : TupAt G.K H w a vs) (r : RVs G ρ S H xs vs) : ZR G ρ S H (.tup xs) (Itt G.K a) := by
  intro i ρ1 S1 H1 E R1
  simp only [Iz.at]
  have t1 := (E.tup R t).1
  have r1 := r.ext E R
  cases hx : xs[i]? with
  | none =>
    have := r1.length
    exact ⟨vs, t1, by rw [this]; exact List.getElem?_eq_none_iff.mp hx⟩
  | some d =>
    obtain ⟨v, h1, h2⟩ := r1.get hx
    refine ⟨⟨vs, v, t1, h1⟩, fun x H' y => ?_⟩
    obtain ⟨rfl, y⟩ := y
    have := y vs t1
    rw [h1] at this
    cases this
    exact ⟨Ext.refl, R1, h2⟩
theorem zr_chs {l : List Nat} : ZR G ρ S H (.chs l) (Its (toS l)) := by
  intro i ρ1 S1 H1 E R1
  simp only [Iz.at]
  have e : ∀ j, (toS l).cps[j]? = l[j]? := fun j => by rw [← Array.getElem?_toList, toS_cps]
  have es : (toS l).cps.size = l.length := by rw [← Array.length_toList, toS_cps]
  cases hx : l[i]? with
  | none => exact (by rw [es]; exact List.getElem?_eq_none_iff.mp hx : (toS l).cps.size ≤ i)
  | some a =>
    refine ⟨?_, fun x H' y => ?_⟩
    · have : i < l.length := by
        rcases Nat.lt_or_ge i l.length with q | q
        · exact q
        · rw [List.getElem?_eq_none q] at hx; cases hx
      exact (by rw [es]; exact this : i < (toS l).cps.size)
    · obtain ⟨rfl, b, hb, rfl⟩ := y
      rw [e, hx] at hb
      cases hb
      exact ⟨Ext.refl, R1, by simp only [RV]; rfl⟩
theorem zr_rng {lo : Int} {n : Nat} : ZR G ρ S H (.rng lo n) (Itr lo n) := by
  intro i ρ1 S1 H1 E R1
  simp only [Iz.at]
  cases z : Nat.blt i n with
  | true =>
    rw [Nat.blt_eq] at z
    refine ⟨z, fun x H' y => ?_⟩
    obtain ⟨rfl, rfl⟩ := y
    exact ⟨Ext.refl, R1, by simp only [RV]⟩
  | false =>
    have : ¬ i < n := fun q => by rw [← Nat.blt_eq, z] at q; cases q
    exact Nat.le_of_not_lt this
theorem zr_enm {p : Po} {xs : List D} (e : seqD (.obj p) S = some xs) : ZR G ρ S H (.enm p) (Ite G.K (ρ p)) := by
  intro i ρ1 S1 H1 E R
  obtain ⟨o, hp⟩ := obj_some e
  have ea : ρ1 p = ρ p := E.re p o hp
  simp only [Iz.at]
  cases z : seqD (.obj p) S1 with
  | none => trivial
  | some ys =>
    obtain ⟨vs, t, q⟩ := lst_now R z
    rw [ea] at t
    dsimp only
    cases hx : ys[i]? with
    | none =>
      have := q.length
      exact ⟨vs, t, by rw [this]; exact List.getElem?_eq_none_iff.mp hx⟩
    | some d =>
      obtain ⟨v, h1, h2⟩ := q.get hx
      refine ⟨⟨vs, v, t, h1⟩, fun x H' y => ?_⟩
      obtain ⟨T, v', rfl, hT, rfl, y⟩ := y
      have := y vs t
      rw [h1] at this
      cases this
      have hi : RV G ρ1 S1 H1 (.int (.ofNat i)) (.int (i : Nat)) := by simp only [RV]; rfl
      exact new_tup R hT (RVs.cons hi (RVs.one h2))
theorem zr_zp {p p' : Po} {xs xs' : List D} (e : seqD (.obj p) S = some xs) (e' : seqD (.obj p') S = some xs') : ZR G ρ S H (.zp p p') (Itz G.K (ρ p) (ρ p')) := by
  intro i ρ1 S1 H1 E R
  obtain ⟨o, hp⟩ := obj_some e
  obtain ⟨o', hp'⟩ := obj_some e'
  have ea : ρ1 p = ρ p := E.re p o hp
  have ea' : ρ1 p' = ρ p' := E.re p' o' hp'
  simp only [Iz.at]
  cases z : seqD (.obj p) S1 with
  | none => trivial
  | some ys =>
    cases z' : seqD (.obj p') S1 with
    | none => trivial
    | some ys' =>
      obtain ⟨vs, t, q⟩ := lst_now R z
      obtain ⟨vs', t', q'⟩ := lst_now R z'
      rw [ea] at t
      rw [ea'] at t'
      dsimp only
      cases hx : ys[i]? with
      | none =>
        have := q.length
        exact ⟨vs, vs', t, t', .inl (by rw [this]; exact List.getElem?_eq_none_iff.mp hx)⟩
      | some d =>
        dsimp only
        cases hx' : ys'[i]? with
        | none =>
          have := q'.length
          exact ⟨vs, vs', t, t', .inr (by rw [this]; exact List.getElem?_eq_none_iff.mp hx')⟩
        | some d' =>
          obtain ⟨v, h1, h2⟩ := q.get hx
          obtain ⟨v', h1', h2'⟩ := q'.get hx'
          refine ⟨⟨vs, vs', v, v', t, t', h1, h1'⟩, fun x H' y => ?_⟩
          obtain ⟨T, a, b, rfl, hT, rfl, y, y'⟩ := y
          have := y vs t
          rw [h1] at this
          cases this
          have := y' vs' t'
          rw [h1'] at this
          cases this
          exact new_tup R hT (RVs.cons h2 (RVs.one h2'))
theorem x_ival {tg e : Expr} {v : Ev} (hK : X.K = G.K) (he : PE X e (tE G W c v)) : PI X tg e (tI G W c (iVal v)) := by
  refine pi_imp (pi_or (pi_list he) (pi_or (pi_tup he) (pi_str he))) fun σ H Q h => ?_
  obtain ⟨ρ, S, env, R, re, h⟩ := h
  unfold iVal at h
  cases z : v c env S with
  | no => rw [z] at h; exact h.elim
  | ex k fs S1 =>
    rw [z] at h
    refine .inl ⟨ρ, S, env, R, re, ?_⟩
    rw [z]
    exact h
  | ok d S1 =>
    rw [z] at h
    cases d with
    | tup w xs =>
      refine .inr (.inl ⟨ρ, S, env, R, re, ?_⟩)
      rw [z]
      intro ρ1 H1 E1 R1 x rx
      simp only [RV] at rx
      obtain ⟨a, vs, rfl, t, r⟩ := rx
      refine ⟨a, rfl, ⟨vs, by rw [hK]; exact t.1⟩, h ρ1 H1 E1 R1 _ ?_⟩
      rw [hK]
      exact zr_tup R1 t r
    | str l =>
      refine .inr (.inr ⟨ρ, S, env, R, re, ?_⟩)
      rw [z]
      intro ρ1 H1 E1 R1 x rx
      simp only [RV] at rx
      exact ⟨toS l, rx, h ρ1 H1 E1 R1 _ zr_chs⟩
    | obj p =>
      refine .inl ⟨ρ, S, env, R, re, ?_⟩
      rw [z]
      have h' : PE1 G W (fun ρ S H z => ∀ J, ZR G ρ S H z J → Q J H) σ ρ S H (match seqD (.obj p) S1 with
        | some _ => Rs.ok (Iz.lst p) S1
        | none => .no) := h
      cases z1 : seqD (.obj p) S1 with
      | none => rw [z1] at h'; exact h'.elim
      | some xs =>
        rw [z1] at h'
        intro ρ1 H1 E1 R1 x rx
        simp only [RV] at rx
        obtain ⟨vs, t, q⟩ := lst_now R1 z1
        refine ⟨ρ1 p, rx.1, ⟨vs, by rw [hK]; exact t⟩, h' ρ1 H1 E1 R1 _ ?_⟩
        rw [hK]
        exact zr_lst z1
    | _ => exact h.elim
theorem smallI_ok {i : Int} (h : smallI i = true) : -(2 ^ 62) ≤ i ∧ i < 2 ^ 62 := by
  unfold smallI at h
  rw [Nat.blt_eq] at h
  omega
theorem x_irange1 {tg a : Expr} {v : Av} {p pos : Pos} (hg : Gl X "range") (hm : X.mg "range" = none) (ha : PA X [a] (tA G W c v)) (hs : starEach [a] X.env = [(false, eval a X.env)] := by rfl) : PI X tg (.Call (.Name "range" p) [a] [] pos) (tI G W c (iRange v)) := by
  refine pi_imp (pi_range1 hg hm ha hs) fun σ H Q h => ?_
  obtain ⟨ρ, S, env, R, re, h⟩ := h
  refine ⟨ρ, S, env, R, re, PE1.bind h fun ρ1 S1 H1 ds E1 R1 h1 xs rx => ?_⟩
  split at h1
  · rename_i j
    split at h1
    · rename_i hj
      obtain ⟨x, rfl, r⟩ := rx.one_inv
      simp only [RV] at r
      subst r
      obtain ⟨k1, k2⟩ := smallI_ok hj
      exact ⟨j, rfl, k1, k2, h1 ρ1 H1 Ext.refl R1 _ zr_rng⟩
    · exact h1.elim
  · exact h1.elim
theorem x_irange2 {tg a b : Expr} {v : Av} {p pos : Pos} (hg : Gl X "range") (hm : X.mg "range" = none) (ha : PA X [a, b] (tA G W c v)) (hs : starEach [a, b] X.env = [(false, eval a X.env), (false, eval b X.env)] := by rfl) (hs2 : starEach [b] X.env = [(false, eval b X.env)] := by rfl) :
    PI X tg (.Call (.Name "range" p) [a, b] [] pos) (tI G W c (iRange2 v)) := by
  refine pi_imp (pi_range2 hg hm ha hs hs2) fun σ H Q h => ?_
  obtain ⟨ρ, S, env, R, re, h⟩ := h
  refine ⟨ρ, S, env, R, re, PE1.bind h fun ρ1 S1 H1 ds E1 R1 h1 xs rx => ?_⟩
  split at h1
  · rename_i i j
    split at h1
    · rename_i hj
      rw [Bool.and_eq_true] at hj
      obtain ⟨x, y, rfl, r, q⟩ := rx.two_inv
      simp only [RV] at r q
      subst r q
      obtain ⟨k1, k2⟩ := smallI_ok hj.1
      obtain ⟨k3, k4⟩ := smallI_ok hj.2
      exact ⟨i, j, rfl, ⟨k1, k2, k3, k4⟩, h1 ρ1 H1 Ext.refl R1 _ zr_rng⟩
    · exact h1.elim
  · exact h1.elim
theorem x_ienm {e : Expr} {v : Av} {p pos tpos : Pos} {elts : List Expr} {kk : Nat} (hK : X.K = G.K) (hg : Gl X "enumerate") (hm : X.mg "enumerate" = none) (ha : PA X [e] (tA G W c v)) (hs : starEach [e] X.env = [(false, eval e X.env)] := by rfl) :
    PI X (.Tuple elts kk tpos) (.Call (.Name "enumerate" p) [e] [] pos) (tI G W c (iEnm v)) := by
  refine pi_imp (pi_enum hg hm ha hs) fun σ H Q h => ?_
  obtain ⟨ρ, S, env, R, re, h⟩ := h
  refine ⟨ρ, S, env, R, re, PE1.bind h fun ρ1 S1 H1 ds E1 R1 h1 xs rx => ?_⟩
  rw [hK]
  split at h1
  · rename_i q
    split at h1
    · rename_i ys e1
      obtain ⟨x, rfl, r⟩ := rx.one_inv
      simp only [RV] at r
      obtain ⟨rfl, _⟩ := r
      obtain ⟨vs, t, _⟩ := lst_now R1 e1
      exact ⟨_, vs, rfl, t, h1 ρ1 H1 Ext.refl R1 _ (zr_enm e1)⟩
    · exact h1.elim
  · exact h1.elim
theorem x_izip {e e2 : Expr} {v : Av} {p pos tpos : Pos} {elts : List Expr} {kk : Nat} (hK : X.K = G.K) (hg : Gl X "zip") (hm : X.mg "zip" = none) (ha : PA X [e, e2] (tA G W c v))
    (hs : starEach [e, e2] X.env = (false, eval e X.env) :: starEach [e2] X.env := by rfl) (hpl : (backTo pos (starEach [e2] X.env)).any (·.1) = false := by rfl) :
    PI X (.Tuple elts kk tpos) (.Call (.Name "zip" p) [e, e2] [] pos) (tI G W c (iZp v)) := by
  refine pi_imp (pi_zip hg hm ha hs hpl) fun σ H Q h => ?_
  obtain ⟨ρ, S, env, R, re, h⟩ := h
  refine ⟨ρ, S, env, R, re, PE1.bind h fun ρ1 S1 H1 ds E1 R1 h1 xs rx => ?_⟩
  rw [hK]
  split at h1
  · split at h1
    · rename_i ys e1
      split at h1
      · rename_i ys' e2
        obtain ⟨x, y, rfl, r, r'⟩ := rx.two_inv
        simp only [RV] at r r'
        obtain ⟨rfl, _⟩ := r
        obtain ⟨rfl, _⟩ := r'
        obtain ⟨vs, t, _⟩ := lst_now R1 e1
        obtain ⟨vs', t', _⟩ := lst_now R1 e2
        exact ⟨_, _, vs, vs', rfl, t, t', h1 ρ1 H1 Ext.refl R1 _ (zr_zp e1 e2)⟩
      · exact h1.elim
    · exact h1.elim
  · exact h1.elim
end
/-! ### for -/
def forF (z : Iz) (g : Gv) (b : Sv) (c : Cal) : Nat → Nat → Slots → Sto → Rt
  | 0, _, _, _ => .no
  | n + 1, i, env, S => match z.at i S with
    | none => .no
    | some none => .nx env S
    | some (some d) => match g d env S with
      | none => .no
      | some (env1, S1) => match b c env1 S1 with
        | .nx env2 S2 => forF z g b c n (i + 1) env2 S2
        | .ct env2 S2 => forF z g b c n (i + 1) env2 S2
        | .bk env2 S2 => .nx env2 S2
        | r => r
def sFor (g : Gv) (it : Iv) (b : Sv) : Sv := fun c env S => (it c env S).bindS env fun z S1 => forF z g b c (z.fuel S1) 0 env S1
section
variable {G : GT} {W : WX'} {c : Cal} {ρ ρ' : Po → Addr} {S S' : Sto} {H H' : Hp} {σ : List (Option V)} {X : Cx} {env : Slots} {F : Fram}
theorem x_for {tg iter : Expr} {body : List Stmt} {v : Iv} {g : Gv} {b : Sv} {pos : Pos} (hp : PassesOwn (model X.prog X.w) X.A X.env X.xe) (hc : X.calm = true) (hi : PI X tg iter (tI G W c v)) (hg : PG X tg (tG G Fram.any g)) (hb : PSs X body (tS G W c b))
    (hs : ∀ x, foldedSetIterable iter X.env x = pure x := by intro _; rfl) : PS X (.For tg iter body [] pos) (tS G W c (sFor g v b)) := by
  refine ps_imp (ps_for hp hc hi hg hb hs) fun D σ H h => ?_
  obtain ⟨ρ, S, env, R, re, h⟩ := h
  refine ⟨ρ, S, env, R, re, PS1.bind h re R fun ρ0 S0 H0 z E0 R0 h0 J hz => ?_⟩
  refine ⟨fun i m σ H => ∃ ρ S env, Ext ρ0 S0 H0 ρ S H ∧ RS G ρ S H ∧ RE G ρ S H env σ ∧ PS1 G W D ρ S H (forF z g b c m i env S), ⟨_, ρ0, S0, env, Ext.refl, R0, re.ext E0 R, h0⟩, ?_⟩
  rintro i m σ1 H1 ⟨ρ1, S1, env1, E1, R1, re1, h1⟩
  cases m with
  | zero => exact h1.elim
  | succ m =>
    have step := hz i ρ1 S1 H1 E1 R1
    unfold forF at h1
    cases ha : z.at i S1 with
    | none => rw [ha] at h1; exact h1.elim
    | some o =>
      rw [ha] at h1 step
      cases o with
      | none => exact .inl ⟨step, h1 ρ1 H1 σ1 Ext.refl R1 re1⟩
      | some d =>
        obtain ⟨go, yl⟩ := step
        refine .inr ⟨go, fun σ2 H2 => ∃ ρ S env, Ext ρ0 S0 H0 ρ S H2 ∧ RS G ρ S H2 ∧ RE G ρ S H2 env σ2 ∧ PS1 G W D ρ S H2 (forF z g b c m (i + 1) env S), fun σ2 H2 w => ⟨m, Nat.lt_succ_self m, w⟩, fun x H2 y => ?_⟩
        obtain ⟨E2, R2', rx⟩ := yl x H2 y
        refine ⟨ρ1, S1, env1, d, R2', re1.ext E2 R1, rx, ?_⟩
        dsimp only at h1
        cases hgd : g d env1 S1 with
        | none => rw [hgd] at h1; exact h1.elim
        | some p =>
          obtain ⟨env2, S2⟩ := p
          rw [hgd] at h1
          dsimp only at h1
          intro ρ3 H3 σ3 E3 R3 re3 _
          refine ⟨ρ3, S2, env2, R3, re3, ?_⟩
          have E4 := (E1.trans E2).trans E3
          cases hb1 : b c env2 S2 with
          | nx e5 S5 =>
            rw [hb1] at h1
            exact fun ρ5 H5 σ5 E5 R5 re5 => ⟨ρ5, S5, e5, E4.trans E5, R5, re5, PS1.later ((E2.trans E3).trans E5) h1⟩
          | ct e5 S5 =>
            rw [hb1] at h1
            exact fun ρ5 H5 σ5 E5 R5 re5 => ⟨ρ5, S5, e5, E4.trans E5, R5, re5, PS1.later ((E2.trans E3).trans E5) h1⟩
          | bk e5 S5 =>
            rw [hb1] at h1
            exact fun ρ5 H5 σ5 E5 R5 re5 => h1 ρ5 H5 σ5 ((E2.trans E3).trans E5) R5 re5
          | rt d5 S5 =>
            rw [hb1] at h1
            exact fun ρ5 H5 x5 E5 R5 r5 => h1 ρ5 H5 x5 ((E2.trans E3).trans E5) R5 r5
          | ex k fs e5 S5 =>
            rw [hb1] at h1
            exact fun s5 ρ5 H5 d5 E5 => h1 s5 ρ5 H5 d5 ((E2.trans E3).trans E5)
          | no => rw [hb1] at h1; exact h1.elim
end
end Ev
set_option Elab.async false
set_option linter.all false
set_option maxRecDepth 100000
namespace Ev
open PySem PySem.Spec PyProof.Rows L2
/-! ### what a def promises, where no repr is under way -/
structure FnG (P : Program) (w : World) (K : PySem.W.Frag) (mg : Str → Option Value) (base : Heap) (k : Nat) (f : Addr) (fd : FuncData) (ps : List Str) (sp : Sp) : Prop where
  ar : ∀ vs H Q E, sp vs H Q E → vs.length = ps.length
  go : ∀ (A : Around) (out : List Env) (s : Shared) (H : Hp) (as : Args) (us : List Value) (vs : List V) (Q : VK) (E : XK), Room k A → A.guards = some [] → Env0 P w K mg base A out s H → BindsTo s fd as (ps.zip us) → Vals vs us → sp vs H Q E →
    codeAny (model P w) A (.call (.ref f) as) (CR (L2.CX P w) out P w H s Q E) s
theorem FnG.mono {P : Program} {w : World} {K : PySem.W.Frag} {mg : Str → Option Value} {base : Heap} {j k : Nat} {f : Addr} {fd : FuncData} {ps : List Str} {sp : Sp} (F : FnG P w K mg base j f fd ps sp) (h : j ≤ k) : FnG P w K mg base k f fd ps sp :=
  ⟨F.ar, fun A out s H as us vs Q E hr => F.go A out s H as us vs Q E (hr.mono h)⟩
/-- lists of arguments, their number -/
def AvLen (a : Av) (k : Nat) : Prop := ∀ c env S ds S', a c env S = .ok ds S' → ds.length = k
theorem avl_nil : AvLen aNil 0 := fun c env S ds S' h => by cases h; rfl
theorem avl_cons {v : Ev} {a : Av} {k : Nat} (h : AvLen a k) : AvLen (aCons v a) (k + 1) := fun c env S ds S' e => by
  unfold aCons at e
  cases z : v c env S with
  | ok d S1 =>
    rw [z] at e
    simp only [Rs.bind] at e
    cases z2 : a c env S1 with
    | ok es S2 =>
      rw [z2] at e
      simp only [Rs.ok.injEq] at e
      rw [← e.1, List.length_cons, h c env S1 es S2 z2]
    | ex k fs S2 => rw [z2] at e; cases e
    | no => rw [z2] at e; cases e
  | ex k fs S1 => rw [z] at e; cases e
  | no => rw [z] at e; cases e
/-- the def number j, as the calls c have it -/
def spC (G : GT) (c : Cal) (j n : Nat) : Sp := fun vs H Q E => ∃ ρ S ds, RS G ρ S H ∧ RVs G ρ S H ds vs ∧ ds.length = n ∧ PE1 G (fun cls d _ H => E cls d H) (VRel G Q) [] ρ S H (c j ds S)
def eCall (j : Nat) (dfl : List D) (a : Av) : Ev := fun c env S => (a c env S).bind fun ds S1 => c j (ds ++ dfl) S1
def eCallK (j : Nat) (m : List D → List D → List D) (a ka : Av) : Ev := fun c env S => (a c env S).bind fun ds S1 => (ka c env S1).bind fun es S2 => c j (m ds es) S2
section
variable {G : GT} {W : WX'} {c : Cal} {ρ ρ' : Po → Addr} {S S' : Sto} {H H' : Hp} {σ : List (Option V)} {X : Cx} {env : Slots} {k j n : Nat} {f : Addr} {fd : FuncData} {ps ks : List Str} {sp : Sp} {x : Str} {p pos : Pos} {e : Expr} {es : List Expr}
theorem PE1.forget {α : Type} {Rel : (Po → Addr) → Sto → Hp → α → Prop} {r : Rs α} (h : PE1 G W Rel σ ρ S H r) : PE1 G (fun cls d _ H => W cls d σ H) Rel [] ρ S H r := by
  cases r with
  | ok a S1 => exact h
  | ex k fs S1 => exact h
  | no => exact h
theorem run_G {pins : List (Addr × Obj)} {s : Shared} {Q : VK} {as : Args} {us : List Value} {vs : List V} {E : XK} (F : FnG X.prog X.w X.K X.mg X.base k f fd ps sp) (hr : Room k X.A) (hu : X.A.guards = some []) (hx : PassesAt (L2.CX X.prog X.w) X σ E) (I : L2.Inv X pins σ H s)
    (hb : BindsTo s fd as (ps.zip us)) (r : Vals vs us) (h : sp vs H Q E) : wpAny (model X.prog X.w) X.A (call (.ref f) as.pos as.kw) (EP X pins σ Q) X.xe s := by
  refine wpAny_call (codeAny_mono (F.go X.A X.stack s H as us vs Q E hr hu I.env0 hb r h) fun z s' hq => ?_)
  cases z with
  | ok fl => cases fl with
    | ret u => exact I.after hq
    | next => exact hq.elim
    | brk => exact hq.elim
    | cont => exact hq.elim
  | error ee => exact hx pins H s ee s' I hq
/-- defaults as values here and there -/
def DflR (G : GT) (dfl : List D) (dvs : List V) : Prop := ∀ ρ S H, RVs G ρ S H dfl dvs
theorem x_call {dfl : List D} {dvs : List V} {ds : List Value} {a : Av} {m : Nat} (F : FnG X.prog X.w X.K X.mg X.base k f fd ps (spC G c j n)) (hr : Room k X.A) (hu : X.A.guards = some []) (hg : Gl X x) (hm : X.mg x = some (.ref f)) (hk : PySem.W.keepIn X.K (.ref f) = true)
    (hb : Binds X.K fd ps ds) (hd : Vals dvs ds) (hf : DflR G dfl dvs) (tk : Takes X W) (ha : PA X (e :: es) (tA G W c a)) (hl : AvLen a m) (hn : m + dfl.length = n) (hp : n = ps.length) (hdb : (x == ("__debug__" : Str)) = false := by decide)
    (he : starEach (e :: es) X.env = (false, eval e X.env) :: starEach es X.env := by rfl) (hpl : (backTo pos (starEach es X.env)).any (·.1) = false := by rfl) : PE X (.Call (.Name x p) (e :: es) [] pos) (tE G W c (eCall j dfl a)) := by
  refine ⟨fun pins s σ H Q I h => ?_⟩
  obtain ⟨ρ, S, env, R, re, h⟩ := h
  refine wpAny_Call_Name_kw (ld_glob I hg hm ?_ hdb)
  have run := ha.run pos pins s σ H (fun vs H1 => vs.length = m ∧ spC G c j n (vs ++ dvs) H1 Q (WE W σ)) I ⟨ρ, S, env, R, re, ?_⟩
  · refine PySem.W.callWith_K (h₀ := X.base) I.ok.mod.kin hk (thn run fun us s1 ⟨vs, H1, I1, r, l1, q⟩ => ⟨I1.kIn, ?_⟩) he hpl
    have r2 : Vals (vs ++ dvs) (us ++ ds) := r.append hd
    refine run_G (as := ⟨us, []⟩) F hr hu (passAt tk σ) I1 (hb s1 us I1.kIn ?_) r2 q
    rw [← r2.length]
    exact F.ar _ _ _ _ q
  · unfold eCall at h
    cases z : a c env S with
    | no => rw [z] at h; exact h.elim
    | ex q fs S1 => rw [z] at h; exact h
    | ok ds S1 =>
      rw [z] at h
      intro ρ1 H1 E1 R1 xs rx
      refine ⟨by rw [rx.length]; exact hl c env S ds S1 z, ρ1, S1, ds ++ dfl, R1, rx.app (hf ρ1 S1 H1), by rw [List.length_append, hl c env S ds S1 z]; exact hn, ?_⟩
      exact PE1.forget (PE1.later E1 (show PE1 G W (VRel G Q) σ ρ S H (c j (ds ++ dfl) S1) from h))
theorem x_call0 {dfl : List D} {dvs : List V} {ds : List Value} (F : FnG X.prog X.w X.K X.mg X.base k f fd ps (spC G c j n)) (hr : Room k X.A) (hu : X.A.guards = some []) (hg : Gl X x) (hm : X.mg x = some (.ref f)) (hk : PySem.W.keepIn X.K (.ref f) = true)
    (hb : Binds X.K fd ps ds) (hd : Vals dvs ds) (hf : DflR G dfl dvs) (tk : Takes X W) (hn : dfl.length = n) (hdb : (x == ("__debug__" : Str)) = false := by decide) : PE X (.Call (.Name x p) [] [] pos) (tE G W c (eCall j dfl aNil)) := by
  refine ⟨fun pins s σ H Q I h => ?_⟩
  obtain ⟨ρ, S, env, R, re, h⟩ := h
  refine wpAny_Call_Name_kw (ld_glob I hg hm ?_ hdb)
  have q : spC G c j n ([] ++ dvs) H Q (WE W σ) := ⟨ρ, S, dfl, R, hf ρ S H, hn, PE1.forget (show PE1 G W (VRel G Q) σ ρ S H (c j dfl S) from h)⟩
  have r2 : Vals ([] ++ dvs) ([] ++ ds) := hd
  refine PySem.W.callWith_K0 I.kIn hk (run_G (as := ⟨[], []⟩) F hr hu (passAt tk σ) I (hb s [] I.kIn ?_) r2 q)
  rw [← r2.length]
  exact F.ar _ _ _ _ q
/-- the keywords' values -/
def tKw (G : GT) (W : WX') (c : Cal) (v : Av) : TA := tA G W c v
theorem pk_imp {kws : List Keyword} {t t' : TA} (h : PK X kws t) (q : ∀ σ H Q, t' σ H Q → t σ H Q) : PK X kws t' := ⟨fun pos pins s σ H Q I z => h.run pos pins s σ H Q I (q σ H Q z)⟩
theorem x_knil : PK X [] (tKw G W c aNil) := pk_imp pk_nil fun σ H Q ⟨ρ, S, env, R, _, h⟩ => h ρ H Ext.refl R [] RVs.nil
theorem x_kcons {kws : List Keyword} {v : Ev} {a : Av} {nm : Option Str} {kpos : Pos} (he : PE X e (tE G W c v)) (hr : PK X kws (tKw G W c a)) : PK X (⟨nm, e, kpos⟩ :: kws) (tKw G W c (aCons v a)) := by
  refine pk_imp (pk_cons he hr) fun σ H Q h => ?_
  obtain ⟨ρ, S, env, R, re, h⟩ := h
  refine ⟨ρ, S, env, R, re, PE1.bind h fun ρ1 S1 H1 d E1 R1 h1 x rx => ?_⟩
  refine ⟨ρ1, S1, env, R1, re.ext E1 R, PE1.bind h1 fun ρ2 S2 H2 ds E2 R2' h2 xs rxs => ?_⟩
  exact h2 ρ2 H2 Ext.refl R2' (x :: xs) (RVs.cons (rx.ext E2 R1) rxs)
/-- m here is g there -/
def MrgR (G : GT) (m : List D → List D → List D) (gV : List V → List V → List V) : Prop := ∀ ρ S H ds es vs zs, RVs G ρ S H ds vs → RVs G ρ S H es zs → RVs G ρ S H (m ds es) (gV vs zs)
theorem x_callK {g : List Value → List Value → List Value} {gV : List V → List V → List V} {m : List D → List D → List D} {a ka : Av} {kws : List Keyword} {m1 : Nat} (F : FnG X.prog X.w X.K X.mg X.base k f fd ps (spC G c j n)) (hr : Room k X.A) (hu : X.A.guards = some []) (hg : Gl X x)
    (hm : X.mg x = some (.ref f)) (hk : PySem.W.keepIn X.K (.ref f) = true) (hb : KBn X.K fd ps m1 ks g gV) (hmg : MrgR G m gV) (tk : Takes X W) (ha : PA X (e :: es) (tA G W c a)) (hka : PK X kws (tKw G W c ka)) (hl : AvLen a m1) (hkl : AvLen ka ks.length)
    (hn : ∀ ds es : List D, ds.length = m1 → es.length = ks.length → (m ds es).length = n) (hall : (backToKw pos (keywordEach kws X.env)).all (·.1.isSome) = true := by rfl) (hks : (backToKw pos (keywordEach kws X.env)).filterMap (·.1) = ks := by rfl)
    (hdb : (x == ("__debug__" : Str)) = false := by decide) (he : starEach (e :: es) X.env = (false, eval e X.env) :: starEach es X.env := by rfl)
    (hpl : ((backTo pos (starEach (e :: es) X.env)).any (·.1) || (backToKw pos (keywordEach kws X.env)).any (·.1.isNone)) = false := by rfl) : PE X (.Call (.Name x p) (e :: es) kws pos) (tE G W c (eCallK j m a ka)) := by
  refine ⟨fun pins s σ H Q I h => ?_⟩
  obtain ⟨ρ, S, env, R, re, h⟩ := h
  refine wpAny_Call_Name_kw (ld_glob I hg hm ?_ hdb)
  have run := ha.run pos pins s σ H (fun vs H1 => vs.length = m1 ∧ tKw G W c ka σ H1 fun zs H2 => zs.length = ks.length ∧ spC G c j n (gV vs zs) H2 Q (WE W σ)) I ⟨ρ, S, env, R, re, ?_⟩
  · refine PySem.W.callWith_KW (h₀ := X.base) I.ok.mod.kin hk hall (thn run fun us s1 ⟨vs, H1, I1, r, l1, q⟩ => ?_) hpl he
    refine thn (hka.run pos pins s1 σ H1 _ I1 q) fun ws s2 ⟨zs, H2, I2, rz, l2, q2⟩ => ⟨I2.kIn, ?_⟩
    rw [hks]
    exact run_G (as := ⟨us, ks.zip ws⟩) F hr hu (passAt tk σ) I2 (hb.to s2 us ws I2.kIn (r.length.symm.trans l1) (rz.length.symm.trans l2)) (hb.rel r rz) q2
  · unfold eCallK at h
    cases z : a c env S with
    | no => rw [z] at h; exact h.elim
    | ex q fs S1 => rw [z] at h; exact h
    | ok ds S1 =>
      rw [z] at h
      intro ρ1 H1 E1 R1 xs rx
      refine ⟨by rw [rx.length]; exact hl c env S ds S1 z, ρ1, S1, env, R1, re.ext E1 R, ?_⟩
      have h1 : PE1 G W (VRel G Q) σ ρ1 S1 H1 ((ka c env S1).bind fun es S2 => c j (m ds es) S2) := PE1.later E1 (show PE1 G W (VRel G Q) σ ρ S H ((ka c env S1).bind fun es S2 => c j (m ds es) S2) from h)
      cases z2 : ka c env S1 with
      | no => rw [z2] at h1; exact h1.elim
      | ex q fs S2 => rw [z2] at h1; exact h1
      | ok fs S2 =>
        rw [z2] at h1
        intro ρ2 H2 E2 R2' zs rz
        have l1 := hl c env S ds S1 z
        have l2 := hkl c env S1 fs S2 z2
        exact ⟨by rw [rz.length]; exact l2, ρ2, S2, m ds fs, R2', hmg ρ2 S2 H2 ds fs xs zs (rx.ext E2 R1) rz, hn ds fs l1 l2, PE1.forget (PE1.later E2 (show PE1 G W (VRel G Q) σ ρ1 S1 H1 (c j (m ds fs) S2) from h1))⟩
end
/-! ### a def's body -/
structure Fn where
  n : Nat
  b : Sv
def Fn.run (F : Fn) (c : Cal) (ds : List D) (S : Sto) : Rs D := match F.b c (ds.map some ++ List.replicate (F.n - ds.length) none) S with
  | .nx _ S1 => .ok .non S1
  | .rt d S1 => .ok d S1
  | .ex k fs _ S1 => .ex k fs S1
  | _ => .no
section
variable {G : GT} {W : WX'} {c : Cal} {ρ ρ' : Po → Addr} {S S' : Sto} {H H' : Hp} {σ : List (Option V)} {X : Cx} {env : Slots}
theorem RE.start {ds : List D} {vs : List V} {N : List Str} (r : RVs G ρ S H ds vs) : RE G ρ S H (ds.map some ++ List.replicate (N.length - ds.length) none) (L2.start N vs) := by
  have hl := r.length
  unfold L2.start
  refine ⟨by simp [hl], fun i d e => ?_⟩
  by_cases hi : i < ds.length
  · rw [List.getElem?_append_left (by simpa using hi), List.getElem?_map] at e
    cases z : ds[i]? with
    | none => rw [z] at e; cases e
    | some d' =>
      rw [z] at e
      cases e
      obtain ⟨v, h1, h2⟩ := r.get z
      exact ⟨v, by rw [List.getElem?_append_left (by rw [List.length_map, hl]; exact hi), List.getElem?_map, h1]; rfl, h2⟩
  · rw [List.getElem?_append_right (by simpa using hi), List.getElem?_replicate] at e
    split at e <;> cases e
/-- THE RULE: a def by its body -/
theorem fnG_of {P : Program} {w : World} {K : PySem.W.Frag} {mg : Str → Option Value} {base : Heap} {k j : Nat} {f : Addr} {x qual : Str} {params : Arguments} {body : List Stmt} {scope : Scope} {dvs : List V} {kws : List (Str × V)} {fd : FuncData} {N ps : List Str} {c' : Cal} {n0 : Nat} {b : Sv}
    (D0 : FunD K x qual params body scope dvs kws f fd) (Sc : FnScope N ps scope) (hN : n0 = N.length) (hc : ∀ ds S, c' j ds S = Fn.run ⟨n0, b⟩ c ds S)
    (hbody : ∀ (cdv : Value) (A : Around) (out : List Env) (s : Shared) (H : Hp) (E : XK), Room k (A.deeper (envOfC qual scope s.heap.objs.size f cdv)) → (A.deeper (envOfC qual scope s.heap.objs.size f cdv)).guards = some [] →
      Takes (cxOf (L2.CX P w) P w K mg base N qual scope f cdv A out s H E) (fun cls d _ H => E cls d H) →
      PassesOwn (model P w) (A.deeper (envOfC qual scope s.heap.objs.size f cdv)) (envOfC qual scope s.heap.objs.size f cdv) (cxOf (L2.CX P w) P w K mg base N qual scope f cdv A out s H E).xe →
      PSs (cxOf (L2.CX P w) P w K mg base N qual scope f cdv A out s H E) body (tS G (fun cls d _ H => E cls d H) c b)) :
    FnG P w K mg base (k + 1) f fd ps (spC G c' j ps.length) := by
  obtain ⟨oc, od, dV, kV, doc, pm, an, cdv, ct, osl, rfl, lk, hcd, _, _⟩ := D0.ex
  refine ⟨fun vs H Q E ⟨ρ, S, ds, R, r, l, _⟩ => r.length.trans l, fun A out s H as us vs Q E hr hu e0 hb r hsp => ?_⟩
  obtain ⟨ρ, S, ds, R, rd, ln, h⟩ := hsp
  have hl : vs.length = ps.length := rd.length.trans ln
  have KX : K.In s.heap := e0.mod.kin.keeps fun b o q => (e0.bs b o q).1
  have lim : s.heap.NoLimit := e0.mod.nolimit.keeps fun b o q => (e0.bs b o q).1
  have kinds : ∀ y ∈ ps.zip us, scope.names.lookup y.1 = some .local ∨ (scope.names.lookup y.1 = some .cell ∧ ((cellsFrom (s.heap.objs.size + 1) scope.names []).lookup y.1).isSome = true) := fun ⟨a, v⟩ hy => by
    rcases Sc.par a (List.of_mem_zip hy).1 with z | z
    · exact .inl z
    · exact .inr ⟨z, PySem.W.cellsFrom_some _ _ _ (.inl z)⟩
  refine codeAny_call_function hr.depth (KX _ _ lk) rfl Sc.co Sc.gen rfl (PySem.W.codeRec_of KX hcd) (hb _ _ _ _ ?_)
  refine wpAny_newFunctionEnv_cells Sc.kind kinds fun env he s1 z1 => ?_
  subst he
  refine ⟨lim.keeps z1.toInCall.keep, codeAny_func ?_⟩
  have bd := hbody cdv A out s H E (hr.deeper _) hu (takes_of rfl rfl rfl rfl) (passes_of rfl)
  have I : L2.Inv (cxOf (L2.CX P w) P w K mg base N qual scope f cdv A out s H E) [] (start N vs) H s1 := inv_start Sc hr.hd e0 hl r z1
  have hq : tS G (fun cls d _ H => E cls d H) c b { nx := fun _ H' => Q .non H', rt := Q } (start N vs) H := by
    refine ⟨ρ, S, _, R, RE.start (N := N) rd, ?_⟩
    rw [hc] at h
    unfold Fn.run at h
    dsimp only at h
    rw [hN] at h
    cases z : b c (ds.map some ++ List.replicate (N.length - ds.length) none) S with
    | nx e1 S1 => rw [z] at h; exact fun ρ1 H1 σ1 E1 R1 _ => h ρ1 H1 E1 R1 _ (by simp only [RV])
    | rt d S1 => rw [z] at h; exact fun ρ1 H1 x1 E1 R1 rx => h ρ1 H1 E1 R1 _ rx
    | ex q fs e1 S1 => rw [z] at h; exact fun s2 ρ1 H1 d1 E1 R1 _ xd => h ρ1 H1 d1 E1 R1 xd
    | bk e1 S1 => rw [z] at h; exact h.elim
    | ct e1 S1 => rw [z] at h; exact h.elim
    | no => rw [z] at h; exact h.elim
  refine wpAny_mono (bd.run [] s1 (start N vs) H _ I hq) (fun fl s' hs => ?_) fun ee s' hs => hs
  cases fl with
  | next =>
    obtain ⟨σ', H', J, q⟩ := hs
    exact ⟨.non, H', J.os, J.bare, J.base, J.hok, rfl, q⟩
  | ret u =>
    obtain ⟨v, σ', H', J, rv, q⟩ := hs
    exact ⟨v, H', J.os, J.bare, J.base, J.hok, rv, q⟩
  | brk =>
    obtain ⟨_, _, _, q⟩ := hs
    exact q.elim
  | cont =>
    obtain ⟨_, _, _, q⟩ := hs
    exact q.elim
end
end Ev
set_option Elab.async false
set_option linter.all false
set_option maxRecDepth 100000
namespace Ev
open PySem PySem.Spec PyProof.Rows L2
/-! ### an exception noted at a frame, whatever frame it flew from -/
theorem note_from {M : Model} {A : Around} {E : Value → Shared → Prop} {s : Shared} {Z : Obj → Prop} {base : Heap} {env : Env} {outer : List Env} {L e : Addr} {fl : Value} {Q : Unit → Shared → Prop} (hZ : HandSPX.Steady Z) (hfr : A.frames = some (env :: outer)) (hf : env.frame = some L)
    (hkb : base.StaysIn s.heap) (hen : base.get? e = none) (hl : s.heap.FunFrames base (env :: outer)) (ht : HandSPX.TracedZ s.heap base e Z fl) (hne : (fl == rawInt L) = false)
    (hQ : ∀ h', HandSPX.HeldZ base (env :: outer) e Z L h' → s.heap.UpToSlots h' → Q () { s with heap := h' }) : wpAny M A (noteFrame (.ref e) env) Q E s := by
  obtain ⟨oe, vs, T, oT, ts, he, hz, hd, h1, hnT, hTe, hT, hdT, h3⟩ := ht
  unfold noteFrame
  simp only [hf]
  refine wpAny_bind (wpAny_field he hd h1 ?_)
  rw [if_pos (show (Value.ref T != Value.none) = true from by simp)]
  refine wpAny_bind (wpAny_field hT hdT h3 ?_)
  rw [if_neg (show ¬ ((fl == rawInt L) = true) from by rw [hne]; exact Bool.false_ne_true)]
  refine wpAny_bind (wpAny_setField hT hdT (Array.getElem?_eq_some_iff.mp h3).1 ?_)
  have off : ∀ b, b ≠ T → (s.heap.update T (Obj.mapFields (·.setIfInBounds 3 Value.none))).get? b = s.heap.get? b := fun b hb => Heap.get?_update_other _ _ (Ne.symm hb)
  have plain : ∀ b o, s.heap.get? b = some o → (∀ vs, o.data ≠ .fields vs) → b ≠ T := fun b o hb hnf q => by
    rw [q, hT] at hb
    cases hb
    exact hnf ts hdT
  refine HandSPX.wpAny_entryZ hZ hfr (hl.of_keeps fun b o hb hnf => ⟨o, (off b (plain b o hb hnf)).trans hb, rfl⟩) hf ((off e (Ne.symm hTe)).trans he)
    (fun b o hbo => (off b fun q => by rw [q, hnT] at hbo; cases hbo).trans (hkb b o hbo)) hen hd (Array.getElem?_eq_some_iff.mp h1).1 hz fun h' hN => ?_
  obtain ⟨x1, x2, x3, x4⟩ := hN
  exact hQ h' ⟨x1, hen, x2, x3⟩ fun b o hb hnf => x4 b o ((off b (plain b o hb hnf)).trans hb) hnf
/-- .. from anywhere in the sky -/
theorem sky_note {M : Model} {A : Around} {E : Value → Shared → Prop} {s : Shared} {Z : Obj → Prop} {B : Heap} {env : Env} {outer : List Env} {L L' a : Addr} {Q : Unit → Shared → Prop} (hZ : HandSPX.Steady Z) (hfr : A.frames = some (env :: outer)) (hf : env.frame = some L) (hne : L' ≠ L)
    (x : Sky B (env :: outer) a Z L' s.heap) (hQ : ∀ h', HandSPX.HeldZ B (env :: outer) a Z L h' → s.heap.UpToSlots h' → Q () { s with heap := h' }) : wpAny M A (noteFrame (.ref a) env) Q E s := by
  rcases x with ⟨hB, hn, hl, oe, vs, he, hz, hd, h1⟩ | ⟨k1, k2, k3, k4⟩ | ⟨k1, k2, k3, k4⟩
  · exact HandSPX.look_newZ hZ hfr hl hf he hB hn hd h1 hz hQ
  · exact note_from hZ hfr hf k1 k2 k3 k4 (by simp [rawInt]) hQ
  · refine note_from hZ hfr hf k1 k2 k3 k4 ?_ hQ
    cases z : (rawInt L' == rawInt L) with
    | false => rfl
    | true =>
      have e := eq_of_beq z
      simp only [rawInt, Value.int.injEq, Int.natCast_inj] at e
      exact absurd e.1 hne
/-- the ground and the heap without what stands at C -/
theorem held_off {B B' h h' : Heap} {l : List Env} {a C L : Addr} {Z : Obj → Prop} (x : HandSPX.HeldZ B l a Z L h) (hC : C ∉ frs l) {o : Obj} (eC : h.get? C = some o) (dC : ∀ vs, o.data ≠ .fields vs) (sb : Heap.SameBut C h h') (g1 : ∀ b, b ≠ C → B'.get? b = B.get? b)
    (g2 : B'.get? C = none) : HandSPX.HeldZ B' l a Z L h' := by
  obtain ⟨x1, x2, x3, oe, vs, T, oT, ts, he, hz, hd, h1, hnT, hTe, hT, hdT, h3⟩ := x
  have sub : ∀ b, B.get? b = none → B'.get? b = none := fun b e => by
    by_cases z : b = C
    · rw [z]; exact g2
    · rw [g1 b z]; exact e
  have away : ∀ {b : Addr} {ob : Obj} {ws : Array Value}, h.get? b = some ob → ob.data = .fields ws → b ≠ C := fun {b ob ws} e d z => by
    rw [z, eC] at e
    cases e
    exact dC ws d
  refine ⟨fun b ob e => ?_, sub a x2, ?_, oe, vs, T, oT, ts, (sb.2 a (away he hd)).trans he, hz, hd, h1, sub T hnT, hTe, (sb.2 T (away hT hdT)).trans hT, hdT, h3⟩
  · have z : b ≠ C := fun z => by rw [z, g2] at e; cases e
    rw [g1 b z] at e
    exact (sb.2 b z).trans (x1 b ob e)
  · have y : h.FunFrames B' l := funFrames_none x3 fun L hL => sub L (x3.mem hL).1
    clear x3
    induction l with
    | nil => trivial
    | cons env l ih =>
      obtain ⟨hk, ⟨M, om, hf, hn, ho, hdm⟩, hr⟩ := y
      have hM : M ∈ frs (env :: l) := List.mem_filterMap.mpr ⟨env, List.mem_cons_self, hf⟩
      refine ⟨hk, ⟨M, om, hf, hn, (sb.2 M fun z => hC (by rw [← z]; exact hM)).trans ho, hdm⟩, ih (fun hm => hC ?_) hr⟩
      obtain ⟨e, he, q⟩ := List.mem_filterMap.mp hm
      exact List.mem_filterMap.mpr ⟨e, List.mem_cons_of_mem _ he, q⟩
/-! ### a list comprehension that an exception may leave -/
def lcPost (M : Model) (A : Around) (E : Value → Shared → Prop) (use : Option (Value → Sem Unit)) (Q : Value → Shared → Prop) (acc : Value) (ce : Env) (r : Result) (t : Shared) : Prop :=
  match r, use with
  | .ok _, none => ∃ m, t.heap.Ns ce.locals m ∧ ∀ h', Heap.SameBut ce.locals t.heap h' → Q acc { t with heap := h' }
  | .ok _, some u => wpAny M A (u acc) (fun _ t2 => ∃ m, t2.heap.Ns ce.locals m ∧ ∀ h', Heap.SameBut ce.locals t2.heap h' → Q .none { t2 with heap := h' }) E t
  | .error x, _ => ∃ m, t.heap.Ns ce.locals m ∧ ∀ h', Heap.SameBut ce.locals t.heap h' → wpAny M A (PySem.passOn "comprehension.variables-let-go" x ce : Sem Value) (fun _ _ => False) E { t with heap := h' }
theorem comprehension_x {M : Model} {A : Around} {E : Value → Shared → Prop} {s : Shared} {env : Env} {e : Expr} {scope : Scope} {pos : Pos} {newAcc first : Sem Value} {g : Comprehension} {gs : List Comprehension} {cl : List (Str × Addr)} {use : Option (Value → Sem Unit)} {Q : Value → Shared → Prop}
    (hcl : clausesOf e = g :: gs) (hs : ∀ x, foldedSetIterable g.iter env x = pure x) (hclos : closureFor scope env = pure cl) (hkind : scope.kind = .function) (hnames : ∀ x ∈ scope.names, x.2 = .local → scope.names.lookup x.1 = some .local)
    (h : wpAny M A first (fun x s₁ => wpAny M A (pyIter x) (fun it s₂ => wpAny M A newAcc (fun acc s₃ => wpAny M A (newFunctionEnv scope env.globals cl [] env.qual none .none (some env)) (fun cenv s₄ =>
      codeAny M A (.compStart e 0 it acc { cenv with scope := relabel scope env }) (lcPost M A E use Q acc { cenv with scope := relabel scope env }) s₄) E s₃) E s₂) E s₁) E s) :
    wpAny M A (comprehension e scope env pos newAcc false first use) Q E s := by
  unfold comprehension
  rw [hclos, hcl]
  refine wpAny_bind (wpAny_mono h (fun x s₁ h₁ => ?_) fun _ _ z => z)
  refine wpAny_bind (wpAny_standAt (wpAny_bind (wpAny_of_eq (hs x) (wpAny_bind (wpAny_holding (wpAny_mono h₁ (fun it s₂ h₂ => ?_) fun _ _ z => z))))))
  refine wpAny_standIf (wpAny_bind (wpAny_mono h₂ (fun acc s₃ h₃ => ?_) fun _ _ z => z))
  refine wpAny_bind (wpAny_pure (wpAny_bind (wpAny_mono h₃ (fun cenv s₄ h₄ => ?_) fun _ _ z => z)))
  dsimp only
  have own : ∀ x ∈ (scope.names.filter fun x => (x.2 == .local || x.2 == .cell) && x.1 != (".0" : Str)).reverse, x.2 = .local → Env.kindOf { cenv with scope := relabel scope env } x.1 = some .local := fun x hx hl =>
    lookup_relabel_local (hnames x (List.mem_filter.mp (List.mem_reverse.mp hx)).1 hl)
  refine wpAny_holding (wpAny_bind (wpAny_attempt (wpAny_holding (wpAny_run (codeAny_mono h₄ fun r t hr => ?_)))))
  cases r with
  | ok f =>
    cases use with
    | none =>
      obtain ⟨m, hn, z⟩ := hr
      exact wpAny_bind (wpAny_holding (wpAny_comp_letGo (cenv := { cenv with scope := relabel scope env }) hkind _ t m own hn fun h' m' _ sb => wpAny_pure (z h' sb)))
    | some u =>
      refine wpAny_bind (wpAny_rule (wpAny_bind (wpAny_holding (wpAny_mono hr (fun _ t2 z2 => ?_) fun _ _ z => z))))
      obtain ⟨m, hn, z⟩ := z2
      exact wpAny_bind (wpAny_comp_letGo (cenv := { cenv with scope := relabel scope env }) hkind _ t2 m (fun x hx => (List.mem_append.mp hx).elim (fun y => own x (List.mem_of_mem_drop y)) fun y => own x (List.mem_of_mem_take y)) hn fun h' m' _ sb => wpAny_pure (z h' sb))
  | error x =>
    have hr : ∃ m, t.heap.Ns cenv.locals m ∧ ∀ h', Heap.SameBut cenv.locals t.heap h' → wpAny M A (PySem.passOn "comprehension.variables-let-go" x { cenv with scope := relabel scope env } : Sem Value) (fun _ _ => False) E { t with heap := h' } := by cases use <;> exact hr
    obtain ⟨m, hn, z⟩ := hr
    exact wpAny_bind (wpAny_holding (wpAny_comp_letGo (cenv := { cenv with scope := relabel scope env }) hkind _ t m own hn fun h' m' _ sb => wpAny_mono (z h' sb) (fun _ _ f => f.elim) fun _ _ y => y))
/-- the block's context with a wish about exceptions -/
abbrev blkE (X : Cx) (s : Shared) (H : Hp) (scope : Scope) (ce : Env) (fp : List Addr) (E : Value → Shared → Prop) : Cx := (X.blk s H scope ce fp).wish E
/-- what is wished inside, of the slots outside -/
def inW (W : WX) (σ : L2.St) : WX := fun cls d _ H => W cls d σ H
def tLcE (wi : TI) (g : TG) (tt : WX → TT) (te : WX → TE) (W : WX) (vs : List Nat) : TE := fun σ H Q => wi σ H fun J H1 => ∀ D, H1 D = none → ∃ T : Nat → Nat → Hp → Prop, (∃ m, T 0 m (upd H1 D (.lst []))) ∧ ∀ i m H, T i m H →
  (J.stop i H ∧ Q (.ref D) H) ∨ (J.go i H ∧ ∃ Nx : Hp → Prop, (∀ H', Nx H' → ∃ m', m' < m ∧ T (i + 1) m' H') ∧ ∀ x H', J.yld i H x H' → g x (wipe σ vs) H' fun σ2 H2 => wipe σ2 vs = wipe σ vs ∧ tt (inW W σ) σ2 H2 fun b H3 =>
    if b = true then te (inW W σ) σ2 H3 fun y H4 => ∃ acc, H4 D = some (.lst acc) ∧ acc.length < sizeLine ∧ Nx (upd H4 D (.lst (acc ++ [y]))) else Nx H3)
section
variable {X : Cx} {W : WX} {pins : List (Addr × Obj)} {σ : L2.St} {H H3 : Hp} {s s3 : Shared} {Q : VK}
/-- what leaves the block is noted, its variables go, then it is passed on -/
theorem takes_blk {scope : Scope} {ce : Env} {fp : List Addr} {use : Option (Value → Sem Unit)} {Qf : Value → Shared → Prop} {acc : Value} (hs : X.stack = X.env :: X.outer) (hf : X.env.frame = some X.env.locals) (tk : Takes X W) (hcf : ce.frame = X.env.frame) (I3 : L2.Inv X pins σ H3 s3)
    (hL : ce.locals = s3.heap.objs.size) (f3 : ∀ b ∈ fp, FpOk X pins H3 b ∧ b < s3.heap.objs.size) :
    Takes (blkE X s3 H3 scope ce fp (notedBy (model X.prog X.w) X.A ce fun e t => lcPost (model X.prog X.w) X.A X.xe use Qf acc ce (.error e) t)) (inW W σ) := by
  rintro u t ⟨a, B, sI, pins1, σ1, H1, cls, d, rfl, J, nb, up, sky, na, os, ag, w⟩
  have hfr : X.A.frames = some (X.env :: X.outer) := by rw [I3.ok.frames, hs]
  have eN : noteFrame (.ref a) ce = noteFrame (.ref a) X.env := by
    unfold noteFrame PySem.frameOf
    rw [hcf]
  have sky' : Sky B (X.env :: X.outer) a (Zc cls d) ce.locals t.heap := by rw [← hs]; exact sky
  have J0 := J.unwish
  have K : L2.Inv X pins σ H1 sI := I3.call' (ch := fp) J0.os J0.base J0.hok J0.bare fun b hb => ⟨(f3 b hb).1.2.2.2.1, (f3 b hb).1.2.1, (f3 b hb).1.2.2.2.2.1, (f3 b hb).1.2.2.2.2.2⟩
  have noC : H1 ce.locals = none := J0.free
  obtain ⟨m, hn, _⟩ := J0.loc
  have hn : sI.heap.Ns ce.locals m := hn
  have ltC : X.env.locals < ce.locals := by rw [hL]; exact I3.lt
  have offC : ce.locals ∉ frs (X.env :: X.outer) := fun hm => by
    rw [← hs] at hm
    rcases List.mem_cons.mp (I3.stkSub _ hm) with z | z
    · rw [z] at ltC; exact absurd ltC (Nat.lt_irrefl _)
    · exact I3.nofs (Nat.le_of_eq hL.symm) z
  obtain ⟨g0, g1, g2, g3, g4, g5⟩ := I3.fpOk (b := ce.locals) (H' := H1) (Nat.le_of_eq hL.symm) noC
  show wpAny _ _ (noteFrame (.ref a) ce) _ _ t
  rw [eN]
  refine sky_note Zc.steady hfr hf (Nat.ne_of_gt ltC) sky' fun h1 held up1 => ?_
  have up2 := up.trans up1
  have hn1 : h1.Ns ce.locals m := hn.upToSlots up2
  have out : ∀ y : (∃ m, h1.Ns ce.locals m ∧ ∀ h', Heap.SameBut ce.locals h1 h' → wpAny (model X.prog X.w) X.A (PySem.passOn "comprehension.variables-let-go" (.ref a) ce : Sem Value) (fun _ _ => False) X.xe { t with heap := h' }), lcPost (model X.prog X.w) X.A X.xe use Qf acc ce (.error (.ref a)) { t with heap := h1 } := fun y => by cases use <;> exact y
  refine out ⟨m, hn1, fun h2 sb => ?_⟩
  obtain ⟨oC, es, ep, eC, dC, _⟩ := id hn1
  obtain ⟨B', b1, b2⟩ := restrict B fun b => decide (b ≠ ce.locals)
  obtain ⟨G', q1, q2⟩ := restrict sI.heap fun b => decide (b ≠ ce.locals)
  have held2 : HandSPX.HeldZ B' (X.env :: X.outer) a (Zc cls d) X.env.locals h2 := held_off held offC eC (fun vs z => by rw [dC] at z; cases z) sb (fun b z => b1 b (decide_eq_true z)) (b2 _ (decide_eq_false fun z => z rfl))
  have away : ∀ b o, G'.get? b = some o → b ≠ ce.locals ∧ sI.heap.get? b = some o := fun b o e => by
    have z : b ≠ ce.locals := fun z => by rw [z, q2 _ (decide_eq_false fun z => z rfl)] at e; cases e
    rw [q1 b (decide_eq_true z)] at e
    exact ⟨z, e⟩
  have K2 : L2.Inv X pins σ H1 { sI with heap := G', toks := sI.toks } := K.turned (it := ce.locals) (fun b o z e => (q1 b (decide_eq_true z)).trans e) g0 g1 g3 g4 g5
  obtain ⟨k1, k2, k3, oe, vs, T, oT, ts, he, hz, hd, hv1, hr⟩ := id held2
  unfold PySem.passOn
  refine wpAny_bind (wpAny_field he hd hv1 ?_)
  rw [if_neg (show ¬ ((Value.ref T == Value.none) = true) from by simp)]
  have fin : wpAny (model X.prog X.w) X.A (setFlight (.ref a) ce.frame) (fun _ s4 => wpAny (model X.prog X.w) X.A (throw (.ref a) : Sem Value) (fun _ _ => False) X.xe s4) X.xe { t with heap := h2 } := by
    rw [hcf, hf]
    refine HandSPX.setFlight_onZ held2 fun h4 hh4 up4 => wpAny_throw (tk _ _ ?_)
    refine ⟨a, B', { sI with heap := G', toks := sI.toks }, pins, σ, H1, cls, d, rfl, K2, fun b o e hb => ?_, fun b o e hd => ?_, .inr (.inr (by rw [hs]; exact hh4)), na, os, ag, w⟩
    · obtain ⟨z, e1⟩ := away b o e
      rw [b1 b (decide_eq_true z)]
      exact nb b o e1 hb
    · obtain ⟨z, e1⟩ := away b o e
      obtain ⟨sl, e2⟩ := up2 b o e1 hd
      obtain ⟨sl2, e3⟩ := up4 b { o with slots := sl } ((sb.2 b z).trans e2) hd
      exact ⟨sl2, e3⟩
  first
    | exact wpAny_bind (wpAny_pure (wpAny_bind fin))
    | exact wpAny_bind fin
theorem lcE_core {elt tg iter : Expr} {ifs : List Expr} {scope : Scope} {own : List (Str × Nat)} {pos pos' : Pos} {wi : TI} {g : TG} {tt : WX → TT} {te : WX → TE} {use : Option (Value → Sem Unit)} {Qf : Value → Shared → Prop} (hs : X.stack = X.env :: X.outer) (hf : X.env.frame = some X.env.locals) (tk : Takes X W)
    (hc : X.calm = true) (hN : X.N.Nodup) (I : L2.Inv X pins σ H s) (hi : PI X tg iter wi) (ok : BlkOk X.N X.env.scope scope own)
    (hg : ∀ (s : Shared) (H : Hp) (C : Addr) (cl : List (Str × Addr)) (fp : List Addr) (E : Value → Shared → Prop), PG (blkE X s H scope (compEnvC scope cl C X.env) fp E) tg g)
    (ht : ∀ (s : Shared) (H : Hp) (C : Addr) (cl : List (Str × Addr)) (fp : List Addr) (E : Value → Shared → Prop) (W' : WX), Takes (blkE X s H scope (compEnvC scope cl C X.env) fp E) W' → PTs (blkE X s H scope (compEnvC scope cl C X.env) fp E) ifs (tt W'))
    (he : ∀ (s : Shared) (H : Hp) (C : Addr) (cl : List (Str × Addr)) (fp : List Addr) (E : Value → Shared → Prop) (W' : WX), Takes (blkE X s H scope (compEnvC scope cl C X.env) fp E) W' → PE (blkE X s H scope (compEnvC scope cl C X.env) fp E) elt (te W'))
    (hst : ∀ x, foldedSetIterable iter X.env x = pure x) (h : tLcE wi g tt te W (own.map (·.2)) σ H Q)
    (last : ∀ D C t m H' ce, L2.Inv X pins σ H' t → Q (.ref D) H' → ce.locals = C → t.heap.Ns C m → FpOk X pins H' C → lcPost (model X.prog X.w) X.A X.xe use Qf (.ref D) ce (.ok .next) t) :
    wpAny (model X.prog X.w) X.A (comprehension (.ListComp elt [⟨tg, iter, ifs, 0⟩] scope pos) scope X.env pos' (newList []) false (eval iter X.env) use) Qf X.xe s := by
  have closed : ∀ y ∈ scope.names, y.2 = .free → ∃ c, X.env.cells.lookup y.1 = some c := fun y hy e => (ok.free y hy e).elim (fun k => I.ok.has _ (.inl k)) fun k => I.ok.has _ (.inr k)
  refine comprehension_x rfl hst (closure_ok closed) ok.kind (fun y hy e => by rw [ok.uniq y hy, e]) (thn (hi.run pins s σ H _ I h) fun xv s1 hx => thn hx fun itv s2 h2 => ?_)
  obtain ⟨it, fp, tn, J, H2, e, I2, T, st2, f2, q⟩ := h2
  subst e
  refine wpAny_newObj_type (newEnv_comp ?_) (Nat.zero_le _)
  generalize hD : s2.heap.objs.size = D
  have freshD : H2 D = none := I2.hok.fresh (Nat.le_of_eq hD)
  obtain ⟨Tm, ⟨m0, w0⟩, turn⟩ := q D freshD
  generalize hs3 : ({ s2 with heap := s2.heap.push { cls := .type "list", data := .seq ([] : List Value).toArray } } : Shared) = s3
  have h3 : s3.heap = s2.heap.push { cls := .type "list", data := .seq ([] : List Value).toArray } := by rw [← hs3]
  have I3 : L2.Inv X pins σ (upd H2 D (.lst [])) s3 := by
    rw [← hs3]
    exact I2.laid (t' := s2.toks) (fun b o z => Heap.get?_push_of_some _ z) (Nat.le_of_eq hD) ⟨Nat.zero_le _, [], 0, .nil, by rw [← hD]; exact Heap.get?_push_size _ rfl⟩
  have small : ∀ b ∈ fp, b < s2.heap.objs.size := fun b hb => let ⟨_, z, _⟩ := T.obj _ _ st2 b hb; Heap.lt_size z
  have f3 : ∀ b ∈ fp, FpOk X pins (upd H2 D (.lst [])) b ∧ b < s3.heap.objs.size := fun b hb =>
    ⟨⟨(upd_ne (by rw [← hD]; exact Nat.ne_of_lt (small b hb))).trans (f2 b hb).1, (f2 b hb).2⟩, by rw [h3, Heap.size_push]; exact Nat.lt_succ_of_lt (small b hb)⟩
  have st3 : tn 0 s3.heap := T.keep _ _ _ st2 fun b _ o z => by rw [h3]; exact Heap.get?_push_of_some _ z
  have I4 := block_start I3 ok hN f3
  have none3 : ∀ b ∈ fp, (upd H2 D (.lst [])) b = none := fun b hb => (f3 b hb).1.1
  generalize hcl : cellsFrom (s3.heap.objs.size + 1) scope.names (cloFrom X.env.cells scope.names []) = cl at I4 ⊢
  show codeAny _ _ (.compStart (.ListComp elt [⟨tg, iter, ifs, 0⟩] scope pos) 0 (.ref it) (.ref D) (compEnvC scope cl s3.heap.objs.size X.env)) (lcPost (model X.prog X.w) X.A X.xe use Qf (.ref D) (compEnvC scope cl s3.heap.objs.size X.env))
    { s3 with heap := pushCells (s3.heap.push { cls := .type "dict", data := .dict #[] }) scope.names }
  have tk2 := takes_blk (scope := scope) (ce := compEnvC scope cl s3.heap.objs.size X.env) (use := use) (Qf := Qf) (acc := .ref D) hs hf tk rfl I3 rfl f3
  have pg := hg s3 (upd H2 D (.lst [])) s3.heap.objs.size cl fp (notedBy (model X.prog X.w) X.A (compEnvC scope cl s3.heap.objs.size X.env) fun e t => lcPost (model X.prog X.w) X.A X.xe use Qf (.ref D) (compEnvC scope cl s3.heap.objs.size X.env) (.error e) t)
  have pt := ht s3 (upd H2 D (.lst [])) s3.heap.objs.size cl fp _ _ tk2
  have pe := he s3 (upd H2 D (.lst [])) s3.heap.objs.size cl fp _ _ tk2
  generalize hce : compEnvC scope cl s3.heap.objs.size X.env = ce at I4 pg pt pe ⊢
  have cL : ce.locals = s3.heap.objs.size := by subst hce; rfl
  generalize hH3 : upd H2 D (.lst []) = H3 at I3 I4 pg pt pe w0 none3 f3
  generalize hs4 : ({ s3 with heap := pushCells (s3.heap.push { cls := .type "dict", data := .dict #[] }) scope.names } : Shared) = s4 at I4 ⊢
  have st4 : tn 0 s4.heap := T.keep _ _ _ st3 fun b _ o z => by rw [← hs4]; exact pushCells_keeps _ _ _ _ (Heap.get?_push_of_some _ z)
  have still : ∀ {σ' : L2.St} {H' : Hp} {s' : Shared}, L2.Inv (X.blk s3 H3 scope ce fp) [] σ' H' s' → (∀ b ∈ fp, H' b = none) → ∀ b ∈ fp, FpOk (X.blk s3 H3 scope ce fp) [] H' b := fun {σ' H' s'} I' hn b hb =>
    ⟨hn b hb, (I'.ok.exf b hb).1, I'.ok.exfs b hb, .inl hb, (I'.ok.exf b hb).2, fun p hp => absurd hp List.not_mem_nil⟩
  have loop : codeAny (model X.prog X.w) X.A (.compLoop (.ListComp elt [⟨tg, iter, ifs, 0⟩] scope pos) 0 (.ref it) (.ref D) ce) (lcPost (model X.prog X.w) X.A X.xe use Qf (.ref D) ce) s4 := by
    refine compLoop_any (fun n t => ∃ i H', L2.Inv (X.blk s3 H3 scope ce fp) [] (wipe σ (own.map (·.2))) H' t ∧ tn i t.heap ∧ (∀ b ∈ fp, H' b = none) ∧ Tm i n H') ?_ m0 ⟨0, H3, I4, st4, none3, w0⟩
    rintro n s5 ⟨i, H5, I5, st5, n5, w5⟩
    have J5 := I5.wish (notedBy (model X.prog X.w) X.A ce fun e t => lcPost (model X.prog X.w) X.A X.xe use Qf (.ref D) ce (.error e) t)
    rcases turn i n H5 w5 with ⟨stop, qq⟩ | ⟨go, Nx, hNx, step⟩
    · refine wpAny_mono (T.done (X.blk s3 H3 scope ce fp) rfl rfl rfl hc i [] s5 _ H5 (fun _ _ => False) I5 (still I5 n5) st5 stop) (fun r s6 ⟨hr, I6⟩ => ?_) fun _ _ z => z.elim
      subst hr
      have I7 : L2.Inv X pins σ H5 s6 := I3.call' (ch := fp) I6.os I6.base I6.hok I6.bare fun b hb => ⟨(f3 b hb).1.2.2.2.1, (f3 b hb).1.2.1, (f3 b hb).1.2.2.2.2.1, (f3 b hb).1.2.2.2.2.2⟩
      have noC : H5 s3.heap.objs.size = none := by
        have z : H5 ce.locals = none := I6.free
        rw [cL] at z
        exact z
      obtain ⟨m, hn, _⟩ := I6.loc
      rw [cL] at hn
      exact last D _ s6 m H5 ce I7 qq cL hn (I3.fpOk (H' := H5) (Nat.le_refl _) noC)
    · refine wpAny_mono (T.item (X.blk s3 H3 scope ce fp) rfl rfl rfl hc i [] s5 _ H5 (fun _ _ => False) I5 (still I5 n5) st5 go) (fun r s6 ⟨u, hr, h6⟩ => ?_) fun _ _ z => z.elim
      subst hr
      refine wpAny_mono h6 (fun _ s7 ⟨x, H7, I7, r7, y7, st7, n7⟩ => ?_) fun _ _ z => z.elim
      have I7' := (I7.pinned (still I7 n7) (T.obj _ _ st7)).wish (notedBy (model X.prog X.w) X.A ce fun e t => lcPost (model X.prog X.w) X.A X.xe use Qf (.ref D) ce (.error e) t)
      refine thn (pg.run _ s7 _ H7 x u _ I7' r7 (step x H7 y7)) fun _ s8 ⟨σ8, H8, I8, hw8, q8⟩ => ?_
      refine thn (pt.run _ s8 σ8 H8 _ I8 q8) fun b s9 ⟨H9, I9, q9⟩ => ?_
      have fin : ∀ {s' : Shared} {H' : Hp}, L2.Inv (X.blk s3 H3 scope ce fp) ([] ++ pinsAt fp s7.heap) σ8 H' s' → Nx H' →
          ∃ m, m < n ∧ ∃ i H', L2.Inv (X.blk s3 H3 scope ce fp) [] (wipe σ (own.map (·.2))) H' s' ∧ tn i s'.heap ∧ (∀ b ∈ fp, H' b = none) ∧ Tm i m H' := fun {s' H'} K' nx => by
        obtain ⟨m', hm, w'⟩ := hNx H' nx
        have pin' : ∀ b ∈ fp, ∀ o, s7.heap.get? b = some o → s'.heap.get? b = some o ∧ H' b = none := fun b hb o z =>
          let y := K'.pin (b, o) (List.mem_append_right _ (List.mem_append_right _ (mem_pinsAt hb z)))
          ⟨y.1, y.2.1⟩
        refine ⟨m', hm, i + 1, H', (K'.unpinned (pins := [])).weak (by rw [← hw8, wipe_length]) (fun j v z => ?_), T.keep _ _ _ st7 fun b hb o z => (pin' b hb o z).1, fun b hb => ?_, w'⟩
        · rw [← hw8] at z
          exact (wipe_some z).1
        · obtain ⟨o, z, _⟩ := T.obj _ _ st7 b hb
          exact (pin' b hb o z).2
      cases b with
      | false =>
        simp only [Bool.false_eq_true, if_false] at q9 ⊢
        exact fin I9.unwish q9
      | true =>
        simp only [if_true] at q9 ⊢
        refine thn (pe.run _ s9 σ8 H9 _ I9 q9) fun z s10 ⟨yv, H10, I10, r10, acc, hD10, hz10, nx⟩ => ?_
        exact app_ok (X := X.blk s3 H3 scope ce fp) I10.unwish hD10 hz10 r10 fun s11 I11 => fin I11 nx
  exact codeAny_compStart_list loop (T.self X.A 0 _ _ _ st4 loop)
theorem pe_lcE {elt tg iter : Expr} {ifs : List Expr} {scope : Scope} {own : List (Str × Nat)} {pos : Pos} {wi : TI} {g : TG} {tt : WX → TT} {te : WX → TE} (hs : X.stack = X.env :: X.outer) (hf : X.env.frame = some X.env.locals) (tk : Takes X W)
    (hc : X.calm = true) (hN : X.N.Nodup) (hi : PI X tg iter wi) (ok : BlkOk X.N X.env.scope scope own)
    (hg : ∀ (s : Shared) (H : Hp) (C : Addr) (cl : List (Str × Addr)) (fp : List Addr) (E : Value → Shared → Prop), PG (blkE X s H scope (compEnvC scope cl C X.env) fp E) tg g)
    (ht : ∀ (s : Shared) (H : Hp) (C : Addr) (cl : List (Str × Addr)) (fp : List Addr) (E : Value → Shared → Prop) (W' : WX), Takes (blkE X s H scope (compEnvC scope cl C X.env) fp E) W' → PTs (blkE X s H scope (compEnvC scope cl C X.env) fp E) ifs (tt W'))
    (he : ∀ (s : Shared) (H : Hp) (C : Addr) (cl : List (Str × Addr)) (fp : List Addr) (E : Value → Shared → Prop) (W' : WX), Takes (blkE X s H scope (compEnvC scope cl C X.env) fp E) W' → PE (blkE X s H scope (compEnvC scope cl C X.env) fp E) elt (te W'))
    (hst : ∀ x, foldedSetIterable iter X.env x = pure x := by intro _; rfl) : PE X (.ListComp elt [⟨tg, iter, ifs, 0⟩] scope pos) (tLcE wi g tt te W (own.map (·.2))) := by
  refine ⟨fun pins s σ H Q I h => ?_⟩
  rw [eval_ListComp]
  refine lcE_core hs hf tk hc hN I hi ok hg ht he hst h fun D C t m H' ce J q hL hn f => ⟨m, by rw [hL]; exact hn, fun h2 sb => ?_⟩
  obtain ⟨g0, g1, g2, g3, g4, g5⟩ := f
  rw [hL] at sb
  exact ⟨.ref D, H', J.turned (t' := t.toks) (it := C) (fun b o hb z => (sb.2 b hb).trans z) g0 g1 g3 g4 g5, rfl, q⟩
/-- name = [..] on one line, the name a local -/
theorem ps_setLcE {i : Nat} {y : Str} {py : Pos} {elt tg iter : Expr} {ifs : List Expr} {scope : Scope} {own : List (Str × Nat)} {pos spos : Pos} {wi : TI} {g : TG} {tt : WX → TT} {te : WX → TE} (hs : X.stack = X.env :: X.outer) (hf : X.env.frame = some X.env.locals) (tk : Takes X W)
    (hc : X.calm = true) (hN : X.N.Nodup) (hy : X.N[i]? = some y) (hyl : X.env.scope.names.lookup y = some .local) (hsw : swapsWith (.ListComp elt [⟨tg, iter, ifs, 0⟩] scope pos) (some (.Name y py)) spos.line X.env = pure true) (hi : PI X tg iter wi) (ok : BlkOk X.N X.env.scope scope own)
    (hg : ∀ (s : Shared) (H : Hp) (C : Addr) (cl : List (Str × Addr)) (fp : List Addr) (E : Value → Shared → Prop), PG (blkE X s H scope (compEnvC scope cl C X.env) fp E) tg g)
    (ht : ∀ (s : Shared) (H : Hp) (C : Addr) (cl : List (Str × Addr)) (fp : List Addr) (E : Value → Shared → Prop) (W' : WX), Takes (blkE X s H scope (compEnvC scope cl C X.env) fp E) W' → PTs (blkE X s H scope (compEnvC scope cl C X.env) fp E) ifs (tt W'))
    (he : ∀ (s : Shared) (H : Hp) (C : Addr) (cl : List (Str × Addr)) (fp : List Addr) (E : Value → Shared → Prop) (W' : WX), Takes (blkE X s H scope (compEnvC scope cl C X.env) fp E) W' → PE (blkE X s H scope (compEnvC scope cl C X.env) fp E) elt (te W'))
    (hst : ∀ x, foldedSetIterable iter X.env x = pure x := by intro _; rfl) : PS X (.Assign [.Name y py] (.ListComp elt [⟨tg, iter, ifs, 0⟩] scope pos) spos) (tAsg (tLcE wi g tt te W (own.map (·.2))) (gName i)) := by
  refine ⟨fun pins s σ H D I h => ?_⟩
  rw [exec_Assign_Name_used _ _ _ _ hsw]
  refine wpAny_bind (wpAny_standAt (wpAny_bind ?_))
  show wpAny _ X.A (do
    let _ ← comprehension (.ListComp elt [⟨tg, iter, ifs, 0⟩] scope pos) scope X.env (firstIterPos [⟨tg, iter, ifs, 0⟩] pos) (newList []) false (eval iter X.env) (some (assign (.Name y py) X.env))) _ _ s
  have h' : tLcE wi g tt te W (own.map (·.2)) σ H (fun x H1 => gName i x σ H1 D.nx) := h
  refine wpAny_bind (thn (lcE_core (Qf := fun _ t => SP X pins D .next t) hs hf tk hc hN I hi ok hg ht he hst h' fun L C t m H' ce J q hL hn f => ?_) fun _ t hq => wpAny_pure (wpAny_pure hq))
  show wpAny _ _ (assign (.Name y py) X.env (.ref L)) _ _ _
  refine wpAny_assign_Name (store_ok2 (v := V.ref L) J hN hy (.inl hyl) rfl (fun s2 I2 ⟨a, sb, ha⟩ => ?_) (.inr hyl))
  obtain ⟨g0, g1, g2, g3, g4, g5⟩ := f
  have ne : C ≠ a := by
    rcases ha with z | z
    · rw [z]; exact g1
    · exact fun e => g4 y a z e.symm
  rw [hL]
  exact ⟨m, hn.sameBut sb ne, fun h3 sb3 => ⟨_, H', I2.turned (t' := s2.toks) (it := C) (fun b o hb e => (sb3.2 b hb).trans e) g0 g1 g3 g4 g5, q⟩⟩
end
end Ev
set_option Elab.async false
set_option linter.all false
set_option maxRecDepth 100000
namespace Ev
open PySem PySem.Spec PyProof.Rows L2
section
variable {G : GT} {W : WX'} {c : Cal} {ρ ρ' ρ0 : Po → Addr} {S S' S0 : Sto} {H H' H0 : Hp} {σ : List (Option V)} {X : Cx} {env : Slots} {D : Addr} {us ws : List V}
/-- values stay values -/
structure Vx (G : GT) (ρ : Po → Addr) (S : Sto) (H : Hp) (ρ' : Po → Addr) (S' : Sto) (H' : Hp) : Prop where
  re : ∀ p o, S.get p = some o → ρ' p = ρ p
  dom : ∀ p o, S.get p = some o → ∃ o', S'.get p = some o'
  tp : ∀ w a vs, TupAt G.K H w a vs → TupAt G.K H' w a vs
  xd : ∀ a fs, H a = some (.xd fs) → H' a = some (.xd fs)
mutual
theorem RV.vx (E : Vx G ρ S H ρ' S' H') : ∀ {d : Ev.D} {v : V}, RV G ρ S H d v → RV G ρ' S' H' d v
  | .non, _, h => by simpa only [RV] using h
  | .bl _, _, h => by simpa only [RV] using h
  | .int _, _, h => by simpa only [RV] using h
  | .str _, _, h => by simpa only [RV] using h
  | .tup w ds, v, h => by
    simp only [RV] at h ⊢
    obtain ⟨a, vs, e, q, r⟩ := h
    exact ⟨a, vs, e, E.tp w a vs q, RVs.vx E r⟩
  | .obj p, v, h => by
    simp only [RV] at h ⊢
    obtain ⟨e, o, q⟩ := h
    exact ⟨by rw [E.re p o q]; exact e, E.dom p o q⟩
  | .fnr _, _, h => by simpa only [RV] using h
  | .clr _, _, h => by simpa only [RV] using h
theorem RVs.vx (E : Vx G ρ S H ρ' S' H') : ∀ {ds : List Ev.D} {vs : List V}, RVs G ρ S H ds vs → RVs G ρ' S' H' ds vs
  | [], _, h => by simpa only [RVs] using h
  | d :: ds, vs, h => by
    simp only [RVs] at h ⊢
    obtain ⟨v, r, e, q, z⟩ := h
    exact ⟨v, r, e, RV.vx E q, RVs.vx E z⟩
end
theorem RK.vx (E : Vx G ρ S H ρ' S' H') : ∀ {l : List (Ky × Ev.D)} {m : List (Key × V)}, RK G ρ S H l m → RK G ρ' S' H' l m
  | [], _, h => h
  | (k, d) :: r, m, h => let ⟨v, q, e, a, b⟩ := h; ⟨v, q, e, a.vx E, RK.vx E b⟩
theorem RKt.vx (E : Vx G ρ S H ρ' S' H') : ∀ {l : List (List Ky × Ev.D)} {m : List (List Key × V)}, RKt G ρ S H l m → RKt G ρ' S' H' l m
  | [], _, h => h
  | (k, d) :: r, m, h => let ⟨v, q, e, a, b⟩ := h; ⟨v, q, e, a.vx E, RKt.vx E b⟩
theorem RF.vx (E : Vx G ρ S H ρ' S' H') : ∀ {l : List (Nat × Ev.D)} {m : List (Str × V)}, RF G ρ S H l m → RF G ρ' S' H' l m
  | [], _, h => h
  | (k, d) :: r, m, h => let ⟨v, q, e, f, a, b⟩ := h; ⟨v, q, e, f, a.vx E, RF.vx E b⟩
theorem XD.vx (E : Vx G ρ S H ρ' S' H') {fs : List (Nat × Ev.D)} {d : Option Addr} (h : XD G ρ S H fs d) : XD G ρ' S' H' fs d := by
  rcases h with h | ⟨dx, fs', e, q, r, n⟩
  · exact .inl h
  · exact .inr ⟨dx, fs', e, E.xd dx fs' q, r.vx E, n⟩
theorem RO.vx (E : Vx G ρ S H ρ' S' H') {a : Addr} {o : Ob} (h : RO G ρ S H a o) (k' : ∀ u, H a = Option.some u → H' a = Option.some u) : RO G ρ' S' H' a o := by
  cases o with
  | lst n xs => obtain ⟨vs, e, r⟩ := h; exact ⟨vs, k' _ e, r.vx E⟩
  | rol xs =>
    obtain ⟨vs, e, r⟩ := h
    refine ⟨vs, ?_, r.vx E⟩
    rcases e with ⟨ob, e⟩ | e
    · exact .inl ⟨ob, k' _ e⟩
    · exact .inr e
  | dic l kvs =>
    obtain ⟨kv, r, e⟩ := h
    refine ⟨kv, r.vx E, ?_⟩
    cases l with
    | true =>
      rw [if_pos rfl] at e ⊢
      obtain ⟨ob, e⟩ := e
      exact ⟨ob, k' _ e⟩
    | false =>
      rw [if_neg Bool.false_ne_true] at e ⊢
      exact k' _ e
  | dit l kvs =>
    obtain ⟨kv, r, e⟩ := h
    refine ⟨kv, r.vx E, ?_⟩
    cases l with
    | true =>
      rw [if_pos rfl] at e ⊢
      obtain ⟨ob, e⟩ := e
      exact ⟨ob, k' _ e⟩
    | false =>
      rw [if_neg Bool.false_ne_true] at e ⊢
      exact k' _ e
  | ins q fs =>
    obtain ⟨hc, dx, fs', e, r⟩ := h
    exact ⟨hc, dx, fs', k' _ e, r.vx E⟩
  | exn q fs =>
    obtain ⟨d, x, e⟩ := h
    exact ⟨d, XD.vx E x, k' _ e⟩
/-- nothing of the store stands at D -/
def NotAt (ρ : Po → Addr) (S : Sto) (D : Addr) : Prop := ∀ p o, S.get p = some o → o.isRol = false → ρ p ≠ D
theorem Ob.rol_free {o : Ob} (h : o.free = true) : o.isRol = false := by cases o <;> first | rfl | cases h
theorem NotAt.ext (n : NotAt ρ S D) (E : Ext ρ S H ρ' S' H') {u : HO} (h : H D = some u) : NotAt ρ' S' D := by
  intro p o hp f e
  cases q : S.get p with
  | none =>
    have := E.nw p o q hp
    rw [e, h] at this; cases this
  | some o1 =>
    have e1 := E.re p o1 q
    cases f1 : o1.isRol with
    | false => exact n p o1 q f1 (by rw [← e1]; exact e)
    | true =>
      have ff : o1.free = false := by cases o1 <;> first | rfl | cases f1
      have := E.lk p o1 q ff
      rw [hp] at this
      cases this
      rw [f1] at f; cases f
theorem NotAt.start (R : RS G ρ S H) (h : H D = none) : NotAt ρ S D := fun p o hp f e => by
  obtain ⟨u, z⟩ := (R.ob p o hp).some f
  rw [e, h] at z; cases z
theorem Ext.stays (E : Ext ρ S H ρ' S' H') (n : NotAt ρ S D) {u : HO} (h : H D = some u) : H' D = some u := E.fr D u h fun p o hp hf => n p o hp (Ob.rol_free hf)
theorem Ext.at_new (E : Ext ρ0 S0 H0 ρ S H) (h : H0 D = none) {o : HO} : Ext ρ0 S0 H0 ρ S (upd H D o) := by
  refine ⟨E.re, E.dom, E.lk, fun a u e n => ?_, E.nw, fun a e => ?_⟩
  · have ne : a ≠ D := fun z => by rw [z, h] at e; cases e
    rw [upd_ne ne]
    exact E.fr a u e n
  · by_cases ne : a = D
    · rw [ne]; exact h
    · rw [upd_ne ne] at e
      exact E.dm a e
theorem vx_list (h : H D = some (.lst us)) : Vx G ρ S H ρ S (upd H D (.lst ws)) := by
  refine ⟨fun _ _ _ => rfl, fun _ o e => ⟨o, e⟩, fun w a vs t => ?_, fun a fs t => by rw [upd_ne (fun z => by rw [z, h] at t; cases t)]; exact t⟩
  have ne : ∀ {u : HO}, H a = some u → (∀ xs, u ≠ .lst xs) → a ≠ D := fun {u} e n z => by
    rw [z, h] at e
    cases e
    exact n us rfl
  refine ⟨?_, fun hw => by rw [upd_ne (ne (t.2 hw) fun _ z => by cases z)]; exact t.2 hw⟩
  rcases t.1 with (e | ⟨ob, e⟩) | e
  · exact .inl (.inl (by rw [upd_ne (ne e fun _ z => by cases z)]; exact e))
  · exact .inl (.inr ⟨ob, by rw [upd_ne (ne e fun _ z => by cases z)]; exact e⟩)
  · exact .inr e
theorem RS.at_list (R : RS G ρ S H) (h : H D = some (.lst us)) (n : NotAt ρ S D) : RS G ρ S (upd H D (.lst ws)) := by
  refine ⟨fun p o hp => ?_, R.inj⟩
  have r := R.ob p o hp
  cases f : o.isRol with
  | false => exact RO.vx (vx_list h) r fun u e => by rw [upd_ne (n p o hp f)]; exact e
  | true =>
    cases o with
    | rol xs =>
      obtain ⟨vs, e, q⟩ := r
      refine ⟨vs, ?_, q.vx (vx_list h)⟩
      rcases e with ⟨ob, e⟩ | e
      · exact .inl ⟨ob, by rw [upd_ne (fun z => by rw [z, h] at e; cases e)]; exact e⟩
      · exact .inr e
    | _ => cases f
/-- the list that was built at D becomes a thing of the store -/
theorem adopt {acc : List Ev.D} (E : Ext ρ0 S0 H0 ρ S H) (R : RS G ρ S H) (n : NotAt ρ S D) (h0 : H0 D = none) (h : H D = some (.lst us)) (r : RVs G ρ S H acc us) (hn : S.get S.nx = none) :
    Ext ρ0 S0 H0 (upR ρ S.nx D) (S.add (.lst 0 acc)) H ∧ RS G (upR ρ S.nx D) (S.add (.lst 0 acc)) H ∧ RV G (upR ρ S.nx D) (S.add (.lst 0 acc)) H (.obj S.nx) (.ref D) := by
  have vx : Vx G ρ S H (upR ρ S.nx D) (S.add (.lst 0 acc)) H := ⟨fun p o hp => upR_ne (ne_of_get hn hp), fun p o hp => ⟨o, by rw [Sto.add_ne (ne_of_get hn hp)]; exact hp⟩, fun _ _ _ t => t, fun _ _ t => t⟩
  refine ⟨⟨fun p o hp => ?_, fun p o hp => ?_, fun p o hp f => ?_, E.fr, fun p o hp hp' => ?_, E.dm⟩, ⟨fun p o hp => ?_, fun p q o1 o2 h1 h2 f1 f2 e => ?_⟩, ?_⟩
  · obtain ⟨o', hp'⟩ := E.dom p o hp
    rw [upR_ne (ne_of_get hn hp')]
    exact E.re p o hp
  · obtain ⟨o', hp'⟩ := E.dom p o hp
    exact ⟨o', by rw [Sto.add_ne (ne_of_get hn hp')]; exact hp'⟩
  · obtain ⟨o', hp'⟩ := E.dom p o hp
    rw [Sto.add_ne (ne_of_get hn hp')]
    exact E.lk p o hp f
  · by_cases z : p = S.nx
    · subst z; rw [upR_same]; exact h0
    · rw [Sto.add_ne z] at hp'
      rw [upR_ne z]
      exact E.nw p o hp hp'
  · by_cases z : p = S.nx
    · subst z
      rw [Sto.add_same] at hp
      cases hp
      rw [upR_same]
      exact ⟨us, h, r.vx vx⟩
    · rw [Sto.add_ne z] at hp
      rw [upR_ne z]
      exact RO.vx vx (R.ob p o hp) fun u e => e
  · by_cases z1 : p = S.nx
    · by_cases z2 : q = S.nx
      · rw [z1, z2]
      · rw [Sto.add_ne z2] at h2
        rw [z1, upR_same, upR_ne z2] at e
        exact absurd e.symm (n q o2 h2 f2)
    · rw [Sto.add_ne z1] at h1
      by_cases z2 : q = S.nx
      · rw [z2, upR_same, upR_ne z1] at e
        exact absurd e (n p o1 h1 f1)
      · rw [Sto.add_ne z2] at h2
        rw [upR_ne z1, upR_ne z2] at e
        exact R.inj p q o1 o2 h1 h2 f1 f2 e
  · simp only [RV]
    exact ⟨by rw [upR_same], _, Sto.add_same⟩
end
/-! ### [e for g in it if q] -/
def wipeD (env : Slots) : List Nat → Slots
  | [] => env
  | v :: vs => (wipeD env vs).set v none
def lcF (z : Iz) (g : Gv) (q : Tv) (e : Ev) (c : Cal) (env : Slots) : Nat → Nat → List D → Sto → Rs (List D)
  | 0, _, _, _ => .no
  | n + 1, i, acc, S => match z.at i S with
    | none => .no
    | some none => .ok acc S
    | some (some d) => match g d env S with
      | none => .no
      | some (env1, S1) => match q c env1 S1 with
        | .ok true S2 => match e c env1 S2 with
          | .ok v S3 => match Nat.blt acc.length big with
            | true => lcF z g q e c env n (i + 1) (acc ++ [v]) S3
            | false => .no
          | .ex k fs S3 => .ex k fs S3
          | .no => .no
        | .ok false S2 => lcF z g q e c env n (i + 1) acc S2
        | .ex k fs S2 => .ex k fs S2
        | .no => .no
def eLc (vs : List Nat) (it : Iv) (g : Gv) (q : Tv) (e : Ev) : Ev := fun c env S => (it c env S).bind fun z S1 => (lcF z g q e c (wipeD env vs) (z.fuel S1) 0 [] S1).bind fun ds S2 => mkO (.lst 0 ds) S2
def tYesV : Tv := fun _ _ S => .ok true S
section
variable {G : GT} {W : WX'} {c : Cal} {ρ ρ' ρ0 : Po → Addr} {S S' S0 : Sto} {H H' H0 : Hp} {σ : List (Option V)} {X : Cx} {env : Slots}
theorem RE.wipe (h : RE G ρ S H env σ) : ∀ vs, RE G ρ S H (wipeD env vs) (L2.wipe σ vs)
  | [] => h
  | v :: vs => by
    have ih := RE.wipe h vs
    show RE G ρ S H ((wipeD env vs).set v none) ((L2.wipe σ vs).set v none)
    refine ⟨by simp [ih.1], fun i d e => ?_⟩
    by_cases hi : v = i
    · subst hi
      by_cases hl : v < (wipeD env vs).length
      · rw [List.getElem?_set_self hl] at e; cases e
      · rw [List.getElem?_eq_none (by simpa using hl)] at e; cases e
    · rw [List.getElem?_set_ne hi] at e ⊢
      exact ih.2 i d e
theorem wipe_sub : ∀ {ws vs : List Nat} {a : L2.St}, (∀ i ∈ ws, i ∈ vs) → wipe (wipe a ws) vs = wipe a vs
  | [], vs, a, _ => rfl
  | w :: ws, vs, a, h => by
    show wipe ((wipe a ws).set w none) vs = _
    rw [wipe_set (h w List.mem_cons_self), wipe_sub fun i hi => h i (List.mem_cons_of_mem _ hi)]
theorem pts_imp {ifs : List Expr} {t t' : TT} (h : PTs X ifs t) (k : ∀ σ H Q, t' σ H Q → t σ H Q) : PTs X ifs t' := ⟨fun pins s σ H Q I z => h.run pins s σ H Q I (k σ H Q z)⟩
theorem x_ts0 : PTs X [] (tT G W c tYesV) := pts_imp pts_nil fun σ H Q ⟨ρ, S, env, R, _, h⟩ => h ρ H Ext.refl R
theorem x_ts1 {e : Expr} {v : Tv} (h : PT X e (tT G W c v)) : PTs X [e] (tT G W c v) := pts_one h
theorem tLc_of {vi : Iv} {g : Gv} {q : Tv} {v : Ev} {vs : List Nat} {Q : VK} (h : tE G W c (eLc vs vi g q v) σ H Q) : tLcE (tI G W c vi) (tG G (Fram.wp vs) g) (fun W' => tT G W' c q) (fun W' => tE G W' c v) W vs σ H Q := by
  obtain ⟨ρ, S, env, R, re, h⟩ := h
  refine ⟨ρ, S, env, R, re, PE1.bind h fun ρ0 S0 H0 z E0 R0 h0 J hz D hD => ?_⟩
  generalize hr : lcF z g q v c (wipeD env vs) (z.fuel S0) 0 [] S0 = r0 at h0
  have re0 := (re.ext E0 R).wipe vs
  refine ⟨fun i m H1 => ∃ ρ1 S1 acc us, H1 D = some (.lst us) ∧ RVs G ρ1 S1 H1 acc us ∧ Ext ρ0 S0 H0 ρ1 S1 H1 ∧ RS G ρ1 S1 H1 ∧ NotAt ρ1 S1 D ∧ RE G ρ1 S1 H1 (wipeD env vs) (L2.wipe σ vs) ∧ lcF z g q v c (wipeD env vs) m i acc S1 = r0,
    ⟨z.fuel S0, ρ0, S0, [], [], upd_same, RVs.nil, Ext.refl.at_new hD, R0.same (upd_keeps hD), NotAt.start R0 hD, re0.ext (Ext.same (upd_keeps hD)) R0, hr⟩, ?_⟩
  rintro i m H1 ⟨ρ1, S1, acc, us, hl, ra, E1, R1, n1, re1, er⟩
  cases m with
  | zero => rw [← er] at h0; exact h0.elim
  | succ m =>
    have step := hz i ρ1 S1 H1 E1 R1
    unfold lcF at er
    cases ha : z.at i S1 with
    | none => rw [ha] at er; rw [← er] at h0; exact h0.elim
    | some o =>
      rw [ha] at er step
      cases o with
      | none =>
        refine .inl ⟨step, ?_⟩
        dsimp only at er
        rw [← er] at h0
        have h0' : PE1 G W (VRel G Q) σ ρ0 S0 H0 (mkO (.lst 0 acc) S1) := h0
        unfold mkO at h0'
        cases hx : S1.get S1.nx with
        | some o => rw [hx] at h0'; exact h0'.elim
        | none =>
          rw [hx] at h0'
          obtain ⟨Ea, Ra, ra'⟩ := adopt E1 R1 n1 hD hl ra hx
          exact h0' _ _ Ea Ra _ ra'
      | some d =>
        obtain ⟨go, yl⟩ := step
        dsimp only at er
        refine .inr ⟨go, fun H1 => ∃ ρ1 S1 acc us, H1 D = some (.lst us) ∧ RVs G ρ1 S1 H1 acc us ∧ Ext ρ0 S0 H0 ρ1 S1 H1 ∧ RS G ρ1 S1 H1 ∧ NotAt ρ1 S1 D ∧ RE G ρ1 S1 H1 (wipeD env vs) (L2.wipe σ vs) ∧ lcF z g q v c (wipeD env vs) m (i + 1) acc S1 = r0, fun H2 w => ⟨m, Nat.lt_succ_self m, w⟩, fun x H2 y => ?_⟩
        obtain ⟨E2, R2', rx⟩ := yl x H2 y
        refine ⟨ρ1, S1, wipeD env vs, d, R2', re1.ext E2 R1, rx, ?_⟩
        cases hgd : g d (wipeD env vs) S1 with
        | none => rw [hgd] at er; rw [← er] at h0; exact h0.elim
        | some p =>
          obtain ⟨env3, S3⟩ := p
          rw [hgd] at er
          dsimp only at er
          intro ρ3 H3 σ3 E3 R3 re3 fr3
          refine ⟨fr3.trans (wipe_sub fun _ hi => hi), ρ3, S3, env3, R3, re3, ?_⟩
          have X3 := (E1.trans E2).trans E3
          have Y3 := E2.trans E3
          cases hq : q c env3 S3 with
          | no => rw [hq] at er; rw [← er] at h0; exact h0.elim
          | ex k fs S4 =>
            rw [hq] at er
            rw [← er] at h0
            exact fun ρ4 H4 d4 E4 R4 xd => h0 ρ4 H4 d4 (X3.trans E4) R4 xd
          | ok b S4 =>
            rw [hq] at er
            intro ρ4 H4 E4 R4
            have X4 := X3.trans E4
            have Y4 := Y3.trans E4
            have l4 := Y4.stays n1 hl
            cases b with
            | false =>
              dsimp only at er
              (try unfold BRel); (try dsimp only); rw [if_neg Bool.false_ne_true]
              exact ⟨ρ4, S4, acc, us, l4, ra.ext Y4 R1, X4, R4, n1.ext Y4 hl, re1.ext Y4 R1, er⟩
            | true =>
              dsimp only at er
              (try unfold BRel); (try dsimp only); rw [if_pos rfl]
              refine ⟨ρ4, S4, env3, R4, re3.ext E4 R3, ?_⟩
              cases hv : v c env3 S4 with
              | no => rw [hv] at er; rw [← er] at h0; exact h0.elim
              | ex k fs S5 =>
                rw [hv] at er
                rw [← er] at h0
                exact fun ρ5 H5 d5 E5 R5 xd => h0 ρ5 H5 d5 (X4.trans E5) R5 xd
              | ok dv S5 =>
                rw [hv] at er
                dsimp only at er
                intro ρ5 H5 E5 R5 yv ry
                have X5 := X4.trans E5
                have Y5 := Y4.trans E5
                have l5 := Y5.stays n1 hl
                have n5 := n1.ext Y5 hl
                cases hz5 : Nat.blt acc.length big with
                | false => rw [hz5] at er; rw [← er] at h0; exact h0.elim
                | true =>
                  rw [hz5] at er
                  have vx := vx_list (G := G) (ρ := ρ5) (S := S5) (ws := us ++ [yv]) l5
                  refine ⟨us, l5, by rw [ra.length]; exact blt_line hz5, ρ5, S5, acc ++ [dv], us ++ [yv], upd_same, (((ra.ext Y5 R1).app (RVs.one ry)).vx vx), X5.at_new hD, R5.at_list l5 n5, n5, ?_, er⟩
                  have r5 := re1.ext Y5 R1
                  exact ⟨r5.1, fun j d e => let ⟨w, a, b⟩ := r5.2 j d e; ⟨w, a, b.vx vx⟩⟩
theorem x_lc {elt tg iter : Expr} {ifs : List Expr} {scope : Scope} {own : List (Str × Nat)} {pos : Pos} {vi : Iv} {g : Gv} {q : Tv} {v : Ev} {vs : List Nat} (hvs : own.map (·.2) = vs) (hs : X.stack = X.env :: X.outer) (hf : X.env.frame = some X.env.locals) (tk : Takes X W)
    (hc : X.calm = true) (hN : X.N.Nodup) (hi : PI X tg iter (tI G W c vi)) (ok : BlkOk X.N X.env.scope scope own)
    (hg : ∀ (s : Shared) (H : Hp) (C : Addr) (cl : List (Str × Addr)) (fp : List Addr) (E : Value → Shared → Prop), PG (blkE X s H scope (compEnvC scope cl C X.env) fp E) tg (tG G (Fram.wp vs) g))
    (ht : ∀ (s : Shared) (H : Hp) (C : Addr) (cl : List (Str × Addr)) (fp : List Addr) (E : Value → Shared → Prop) (W' : WX), Takes (blkE X s H scope (compEnvC scope cl C X.env) fp E) W' → PTs (blkE X s H scope (compEnvC scope cl C X.env) fp E) ifs (tT G W' c q))
    (he : ∀ (s : Shared) (H : Hp) (C : Addr) (cl : List (Str × Addr)) (fp : List Addr) (E : Value → Shared → Prop) (W' : WX), Takes (blkE X s H scope (compEnvC scope cl C X.env) fp E) W' → PE (blkE X s H scope (compEnvC scope cl C X.env) fp E) elt (tE G W' c v))
    (hst : ∀ x, foldedSetIterable iter X.env x = pure x := by intro _; rfl) : PE X (.ListComp elt [⟨tg, iter, ifs, 0⟩] scope pos) (tE G W c (eLc vs vi g q v)) := by
  refine pe_imp (pe_lcE (tt := fun W' => tT G W' c q) (te := fun W' => tE G W' c v) hs hf tk hc hN hi ok hg ht he hst) fun σ H Q h => ?_
  rw [hvs]
  exact tLc_of h
theorem x_setLc {i : Nat} {y : Str} {py spos : Pos} {elt tg iter : Expr} {ifs : List Expr} {scope : Scope} {own : List (Str × Nat)} {pos : Pos} {vi : Iv} {g : Gv} {q : Tv} {v : Ev} {vs : List Nat} (hvs : own.map (·.2) = vs) (hs : X.stack = X.env :: X.outer) (hf : X.env.frame = some X.env.locals) (tk : Takes X W)
    (hc : X.calm = true) (hN : X.N.Nodup) (hy : X.N[i]? = some y) (hyl : X.env.scope.names.lookup y = some .local) (hsw : swapsWith (.ListComp elt [⟨tg, iter, ifs, 0⟩] scope pos) (some (.Name y py)) spos.line X.env = pure true) (hi : PI X tg iter (tI G W c vi)) (ok : BlkOk X.N X.env.scope scope own)
    (hg : ∀ (s : Shared) (H : Hp) (C : Addr) (cl : List (Str × Addr)) (fp : List Addr) (E : Value → Shared → Prop), PG (blkE X s H scope (compEnvC scope cl C X.env) fp E) tg (tG G (Fram.wp vs) g))
    (ht : ∀ (s : Shared) (H : Hp) (C : Addr) (cl : List (Str × Addr)) (fp : List Addr) (E : Value → Shared → Prop) (W' : WX), Takes (blkE X s H scope (compEnvC scope cl C X.env) fp E) W' → PTs (blkE X s H scope (compEnvC scope cl C X.env) fp E) ifs (tT G W' c q))
    (he : ∀ (s : Shared) (H : Hp) (C : Addr) (cl : List (Str × Addr)) (fp : List Addr) (E : Value → Shared → Prop) (W' : WX), Takes (blkE X s H scope (compEnvC scope cl C X.env) fp E) W' → PE (blkE X s H scope (compEnvC scope cl C X.env) fp E) elt (tE G W' c v))
    (hst : ∀ x, foldedSetIterable iter X.env x = pure x := by intro _; rfl) : PS X (.Assign [.Name y py] (.ListComp elt [⟨tg, iter, ifs, 0⟩] scope pos) spos) (tS G W c (sSet (gN i) (eLc vs vi g q v))) := by
  refine ps_imp (ps_setLcE (tt := fun W' => tT G W' c q) (te := fun W' => tE G W' c v) hs hf tk hc hN hy hyl hsw hi ok hg ht he hst) fun D σ H h => ?_
  rw [hvs]
  refine tLc_of ?_
  obtain ⟨ρ, S, env, R, re, h⟩ := h
  refine ⟨ρ, S, env, R, re, PS1.bind h re R fun ρ1 S1 H1 d E1 R1 h1 x rx => ?_⟩
  exact h1 ρ1 H1 _ Ext.refl R1 ((re.ext E1 R).set rx)
end
end Ev
set_option Elab.async false
set_option linter.all false
set_option maxRecDepth 100000
namespace Ev
open PySem PySem.Spec PyProof.Rows L2
/-! ### f-strings -/
def eFmt (v : Ev) : Ev := fun c env S => (v c env S).bind fun d S1 => match d with
  | .str l => match Nat.ble l.length big with
    | true => .ok (.str l) S1
    | false => .no
  | .int i => match shortI i with
    | true => .ok (.str (intL i)) S1
    | false => .no
  | _ => .no
def jF : List Ev → List Nat → Ev
  | [], acc => fun _ _ S => .ok (.str acc) S
  | v :: vs, acc => fun c env S => (v c env S).bind fun d S1 => match d with
    | .str l => match Nat.ble (acc.length + l.length) big with
      | true => jF vs (acc ++ l) c env S1
      | false => .no
    | _ => .no
def eJoined (vs : List Ev) : Ev := jF vs []
section
variable {G : GT} {W : WX'} {c : Cal} {ρ ρ' : Po → Addr} {S S' : Sto} {H H' : Hp} {σ : List (Option V)} {X : Cx} {env : Slots}
theorem x_fmt {e : Expr} {v : Ev} {pos : Pos} (he : PE X e (tE G W c v)) : PE X (.FormattedValue e (-1) none pos) (tE G W c (eFmt v)) := by
  refine pe_imp (pe_fmt he) fun σ H Q h => ?_
  obtain ⟨ρ, S, env, R, re, h⟩ := h
  refine ⟨ρ, S, env, R, re, PE1.bind h fun ρ1 S1 H1 d E1 R1 h1 x rx => ?_⟩
  cases d with
  | str l =>
    have r' := rx
    simp only [RV] at rx
    subst rx
    cases hl : Nat.ble l.length big with
    | false => dsimp only at h1; rw [hl] at h1; exact h1.elim
    | true =>
      dsimp only at h1
      rw [hl] at h1
      exact .inl ⟨toS l, rfl, by rw [toS_len]; exact ble_line hl, fine R1 h1 r'⟩
  | int i =>
    simp only [RV] at rx
    subst rx
    cases hl : shortI i with
    | false => dsimp only at h1; rw [hl] at h1; exact h1.elim
    | true =>
      dsimp only at h1
      rw [hl] at h1
      exact .inr ⟨i, rfl, shortI_ok hl, fine R1 h1 (by simp only [RV]; rw [intL_ok])⟩
  | _ => exact h1.elim
theorem pj_nil : PJ X [] (([] : List Ev).map (tE G W c)) := .nil
theorem pj_cons {e : Expr} {es : List Expr} {v : Ev} {vs : List Ev} (h : PE X e (tE G W c v)) (r : PJ X es (vs.map (tE G W c))) : PJ X (e :: es) ((v :: vs).map (tE G W c)) := .cons h r
theorem tJ_of {Q : VK} : ∀ {vs : List Ev} {acc : List Nat} {ρ : Po → Addr} {S : Sto} {H : Hp} {env : Slots}, RS G ρ S H → RE G ρ S H env σ → PE1 G W (VRel G Q) σ ρ S H (jF vs acc c env S) → tJs (vs.map (tE G W c)) (toS acc) σ H fun out H1 => Q (.str out) H1
  | [], acc, ρ, S, H, env, R, re, h => h ρ H Ext.refl R (.str (toS acc)) (by simp only [RV])
  | v :: vs, acc, ρ, S, H, env, R, re, h => by
    refine ⟨ρ, S, env, R, re, PE1.bind h fun ρ1 S1 H1 d E1 R1 h1 x rx => ?_⟩
    cases d with
    | str l =>
      simp only [RV] at rx
      subst rx
      cases hl : Nat.ble (acc.length + l.length) big with
      | false => dsimp only at h1; rw [hl] at h1; exact h1.elim
      | true =>
        dsimp only at h1
        rw [hl] at h1
        refine ⟨toS l, rfl, ?_, ?_⟩
        · rw [toS_app, toS_len, List.length_append]; exact ble_line hl
        · rw [toS_app]; exact tJ_of R1 (re.ext E1 R) h1
    | _ => exact h1.elim
theorem x_joined {v1 v2 : Expr} {rest : List Expr} {vs : List Ev} {pos : Pos} (h : PJ X (v1 :: v2 :: rest) (vs.map (tE G W c))) : PE X (.JoinedStr (v1 :: v2 :: rest) pos) (tE G W c (eJoined vs)) :=
  pe_imp (pe_joined h) fun σ H Q ⟨ρ, S, env, R, re, h⟩ => tJ_of R re h
/-! ### chains -/
def eChain (o o' : Op2) (a b d : Ev) : Ev := fun c env S => (a c env S).bind fun x S1 => (b c env S1).bind fun y S2 => (o x y S2).bind fun k S3 => match k with
  | .bl true => (d c env S3).bind fun z S4 => o' y z S4
  | .bl false => .ok (.bl false) S3
  | _ => .no
theorem tChainE {o o' : Op2} {r r' : R2} {a b d : Ev} (hs : Serves G W r o) (hs' : Serves G W r' o') {Q : VK} (h : tE G W c (eChain o o' a b d) σ H Q) : tChain r r' (tE G W c a) (tE G W c b) (tE G W c d) σ H Q := by
  obtain ⟨ρ, S, env, R, re, h⟩ := h
  refine ⟨ρ, S, env, R, re, PE1.bind h fun ρ1 S1 H1 x E1 R1 h1 xv rx => ?_⟩
  refine ⟨ρ1, S1, env, R1, re.ext E1 R, PE1.bind h1 fun ρ2 S2 H2 y E2 R2' h2 yv ry => ?_⟩
  have re2 := (re.ext E1 R).ext E2 R1
  refine hs σ ρ2 S2 H2 x y xv yv _ R2' (rx.ext E2 R1) ry (PE1.bind h2 fun ρ3 S3 H3 k E3 R3 h3 kv rk => ?_)
  cases k with
  | bl b =>
    simp only [RV] at rk
    refine ⟨b, rk, ?_⟩
    cases b with
    | true =>
      rw [if_pos rfl]
      exact ⟨ρ3, S3, env, R3, re2.ext E3 R2', PE1.bind h3 fun ρ4 S4 H4 z E4 R4 h4 zv rz => hs' σ ρ4 S4 H4 y z yv zv _ R4 ((ry.ext E3 R2').ext E4 R3) rz h4⟩
    | false =>
      rw [if_neg Bool.false_ne_true]
      exact h3 ρ3 H3 Ext.refl R3 _ (by simp only [RV])
  | _ => exact h3.elim
theorem x_chain {a b d : Expr} {va vb vd : Ev} {p p' : CmpOp} {o o' : Op2} {r r' : R2} {pos : Pos} (ho : OpR X (compareOp p) r) (ho' : OpR X (compareOp p') r') (hs : Serves G W r o) (hs' : Serves G W r' o') (ha : PE X a (tE G W c va)) (hb : PE X b (tE G W c vb)) (hd : PE X d (tE G W c vd))
    (hm : lastMarks [p, p'] [b, d] = false := by with_unfolding_all rfl) : PE X (.Compare a [p, p'] [b, d] pos) (tE G W c (eChain o o' va vb vd)) := pe_imp (pe_chain ho ho' ha hb hd hm) fun _ _ _ h => tChainE hs hs' h
theorem x_tchain {a b d : Expr} {va vb vd : Ev} {p p' : CmpOp} {o o' : Op2} {r r' : R2} {pos : Pos} (ho : OpR X (compareOp p) r) (ho' : OpR X (compareOp p') r') (hs : Serves G W r o) (hs' : Serves G W r' o') (ha : PE X a (tE G W c va)) (hb : PE X b (tE G W c vb)) (hd : PE X d (tE G W c vd))
    (hm : lastMarks [p, p'] [b, d] = false := by with_unfolding_all rfl) : PT X (.Compare a [p, p'] [b, d] pos) (tT G W c (tOf (eChain o o' va vb vd))) :=
  pt_imp (pt_chain ho ho' ha hb hd hm) fun _ _ _ h => tTestOf (fun _ _ _ h => tChainE hs hs' h) h
/-! ### code that is never come to -/
def sNo : Sv := fun _ _ _ => .no
theorem x_never {st : Stmt} : PS X st (tS G W c sNo) := ps_imp ps_never fun D σ H ⟨ρ, S, env, R, re, h⟩ => h
def eNo : Ev := fun _ _ _ => .no
theorem x_eno {e : Expr} : PE X e (tE G W c eNo) := ⟨fun pins s σ H Q I ⟨ρ, S, env, R, re, h⟩ => h.elim⟩
/-! ### isinstance -/
inductive Tyn where
  | non | bl | int | str | tup | lst | dic
  deriving DecidableEq
def Tyn.nm : Tyn → String
  | .non => "NoneType"
  | .bl => "bool"
  | .int => "int"
  | .str => "str"
  | .tup => "tuple"
  | .lst => "list"
  | .dic => "dict"
def tyn (d : D) (S : Sto) : Option Tyn := match d with
  | .non => some .non
  | .bl _ => some .bl
  | .int _ => some .int
  | .str _ => some .str
  | .tup _ _ => some .tup
  | .obj p => match S.get p with
    | some (.lst _ _) => some .lst
    | some (.rol _) => some .lst
    | some (.dic _ _) => some .dic
    | _ => none
  | _ => none
def isk (T t : Tyn) : Bool := decide (t = T) || (decide (t = .bl) && decide (T = .int))
def isInst (T : Tyn) (d : D) (S : Sto) : Rs D := match tyn d S with
  | some t => .ok (.bl (isk T t)) S
  | none => .no
def eIs (T : Tyn) (v : Ev) : Ev := fun c env S => (v c env S).bind fun d S1 => isInst T d S1
theorem tyn_ok (R : RS G ρ S H) {d : D} {x : V} {t : Tyn} (r : RV G ρ S H d x) (h : tyn d S = some t) : TyX G.K H x (.type t.nm) := by
  unfold tyn at h
  split at h
  · cases h; simp only [RV] at r; subst r; exact .base .non
  · cases h; simp only [RV] at r; subst r; exact .base (.bl _)
  · cases h; simp only [RV] at r; subst r; exact .base (.int _)
  · cases h; simp only [RV] at r; subst r; exact .base (.str _)
  · cases h
    simp only [RV] at r
    obtain ⟨a, vs, rfl, t, _⟩ := r
    rcases t.1 with (e | ⟨ob, e⟩) | ⟨o, its, n, e, c1, _⟩
    · exact .base (.tup e)
    · exact .fTuple e
    · exact .kTuple e c1
  · rename_i p
    simp only [RV] at r
    obtain ⟨rfl, _⟩ := r
    split at h
    · rename_i k xs e
      cases h
      obtain ⟨vs, e1, _⟩ := R.ob p _ e
      exact .base (.lst e1)
    · rename_i xs e
      cases h
      obtain ⟨vs, e1, _⟩ := R.ob p _ e
      rcases e1 with ⟨ob, e1⟩ | ⟨o, its, n, e1, c1, _⟩
      · exact .base (.frz e1)
      · exact .kList e1 c1
    · rename_i l kvs e
      cases h
      obtain ⟨kv, _, e1⟩ := R.ob p _ e
      cases l with
      | true =>
        rw [if_pos rfl] at e1
        obtain ⟨o, e1⟩ := e1
        exact .fDict e1
      | false =>
        rw [if_neg Bool.false_ne_true] at e1
        exact .base (.dK e1)
    · cases h
  · cases h
theorem isk_ok {T t : Tyn} (hT : T ≠ .non) : kitB t.nm T.nm = some (isk T t) := by
  cases T <;> first
    | exact absurd rfl hT
    | (cases t <;> decide +kernel)
theorem x_is {e : Expr} {T : Tyn} {v : Ev} {x : Str} {p pos xp : Pos} (hK : X.K = G.K) (hT : T ≠ .non) (hg : Gl X "isinstance") (hm : X.mg "isinstance" = none) (hgT : Gl X x) (hmT : X.mg x = none) (hv : bootBuiltins x = some (.type T.nm)) (he : PE X e (tE G W c v))
    (hn : x ≠ "__name__" := by decide) (hdb : (x == ("__debug__" : Str)) = false := by decide)
    (h1 : starEach [e, .Name x xp] X.env = (false, eval e X.env) :: starEach [.Name x xp] X.env := by rfl) (hpl : (backTo pos (starEach [.Name x xp] X.env)).any (·.1) = false := by rfl) (h2 : starEach [.Name x xp] X.env = (false, eval (.Name x xp) X.env) :: starEach [] X.env := by rfl) :
    PE X (.Call (.Name "isinstance" p) [e, .Name x xp] [] pos) (tE G W c (eIs T v)) := by
  have hb : PE X (.Name x xp) (tC (.ty T.nm)) := pe_bltn (v := .ty T.nm) hgT hmT hv rfl hn hdb
  refine pe_imp (pe_callB call_isi hg hm boot_isinstance (pa_cons he (pa_cons hb pa_nil h2) h1) (by decide) (by decide) h1 hpl) fun σ H Q h => ?_
  obtain ⟨ρ, S, env, R, re, h⟩ := h
  refine ⟨ρ, S, env, R, re, PE1.bind h fun ρ1 S1 H1 d E1 R1 h1 x rx => ?_⟩
  unfold isInst at h1
  cases z : tyn d S1 with
  | none => rw [z] at h1; exact h1.elim
  | some t =>
    rw [z] at h1
    rw [hK]
    exact ⟨x, .ty T.nm, .type t.nm, .type T.nm, isk T t, rfl, .ty _, tyn_ok R1 rx z, kit_ty (isk_ok hT), fine R1 h1 (by simp only [RV])⟩
/-! ### list + list, whatever they are -/
def dCatL : Op2 := fun x y S => match lstD x S with
  | some a => match lstD y S with
    | some b => match Nat.ble (a.length + b.length) big with
      | true => mkO (.lst 0 (a ++ b)) S
      | false => .no
    | none => .no
  | none => .no
def rCatL (K : PySem.W.Frag) : R2 := fun x y H Q => ∃ a b xs ys, x = .ref a ∧ y = .ref b ∧ SqL K H a xs ∧ SqL K H b ys ∧ xs.length + ys.length ≤ sizeLine ∧ ∀ l, H l = none → Q (.ref l) (upd H l (.lst (xs ++ ys)))
theorem op_catL : OpR X (binaryOp .Add) (rCatL X.K) := by
  intro pins s σ H x y v u Q I rx ry h
  obtain ⟨a, b, xs, ys, rfl, rfl, ha, hb, hz, q⟩ := h
  cases rx
  cases ry
  obtain ⟨its, r1, p1, _⟩ := I.list ha
  obtain ⟨its2, r2, p2, _⟩ := I.list hb
  obtain ⟨⟨c1, d1, dt1, s1⟩, e1, hc1, n1, hd1⟩ := id p1.isList
  obtain ⟨⟨c2, d2, dt2, s2⟩, e2, hc2, n2, hd2⟩ := id p2.isList
  simp only at hc1 hd1 hc2 hd2
  subst hc1 hd1 hc2 hd2
  have e3 : its.toArray ++ its2.toArray = (its ++ its2).toArray := by simp
  refine PySem.concat_meets ⟨_, e1, rfl⟩ ⟨_, e2, rfl⟩ PySem.noFill_list_add PySem.seq_list_add PySem.F.slot_list_add PySem.F.entry_list_add (PySem.F.args_list_add_2 _ _)
    (PyProof.Rows.list_addW a b its.toArray its2.toArray n1 n2 d1 d2 s1 s2 (by rw [List.size_toArray, List.size_toArray, ← r1.length, ← r2.length]; exact hz)) ⟨e1, e2, ?_⟩
  rw [e3]
  exact ⟨.ref s.heap.objs.size, _, I.laid (t' := s.toks) (o := .lst (xs ++ ys)) (fun b o z => Heap.get?_push_of_some _ z) (Nat.le_refl _) ⟨by rw [List.length_append]; exact hz, its ++ its2, 0, r1.append r2, Heap.get?_push_size _ rfl⟩, rfl, q _ (I.hok.fresh (Nat.le_refl _))⟩
theorem dCatL_ok : Serves G W (rCatL G.K) dCatL := by
  intro σ ρ S H d e x y Q R rx ry h
  unfold dCatL at h
  split at h
  · rename_i a e1
    split at h
    · rename_i b e2
      split at h
      · rename_i hl
        obtain ⟨p, vs, rfl, t, r⟩ := lstD_ok R rx e1
        obtain ⟨p2, ws, rfl, t2, r2⟩ := lstD_ok R ry e2
        exact ⟨p, p2, vs, ws, rfl, rfl, t, t2, by rw [r.length, r2.length]; exact ble_line hl, new_lst R (r.app r2) h⟩
      · exact h.elim
    · exact h.elim
  · exact h.elim
end
end Ev
set_option Elab.async false
set_option linter.all false
set_option maxRecDepth 100000
namespace Ev
open PySem PySem.Spec PyProof.Rows L2
/-! ### enumerate(a text) -/
def Ites (x : Str) : It := ⟨fun i _ => i < x.cps.size, fun i H v H' => ∃ T a, v = .ref T ∧ H T = none ∧ H' = upd H T (.tup [.int (i : Nat), .str ⟨#[a]⟩]) ∧ x.cps[i]? = some a, fun i _ => x.cps.size ≤ i⟩
theorem turn_enumS {P : Program} {w : World} {K : PySem.W.Frag} {elts : List Expr} {kk : Nat} {tpos : Pos} (e it : Addr) (x : Str) (t : Tok) :
    Turn P w K (.Tuple elts kk tpos) (Ites x) [e, it] e (fun i h => (∃ old, IsEnum h e it ((i : Nat) : Int) old) ∧ h.IsStrIter it "str_ascii_iterator" x t i ∧ e ≠ it) where
  mem := by simp
  obj := fun i h st b hb => by
    obtain ⟨⟨old, he⟩, ⟨o, ho, hc, hd⟩, _⟩ := st
    have q : b = e ∨ b = it := by simpa using hb
    rcases q with z | z
    · rw [z]; exact ⟨_, he, fun v q => nomatch q⟩
    · rw [z]; exact ⟨o, ho, fun v q => by rw [hd] at q; cases q⟩
  keep := fun i h h' st k => by
    obtain ⟨⟨old, he⟩, ⟨o, ho, r⟩, ne⟩ := st
    exact ⟨⟨old, k e (by simp) _ he⟩, ⟨o, k it (by simp) o ho, r⟩, ne⟩
  item := by
    intro X hP hw hK hc i pins s σ H E I hf st hg
    subst hP hw hK
    obtain ⟨⟨old, he⟩, hit, hne⟩ := st
    have lt1 : e < s.heap.objs.size := Heap.lt_size he
    have lt2 : it < s.heap.objs.size := by obtain ⟨_, q, _⟩ := hit; exact Heap.lt_size q
    refine wpAny_pyNext_enum_itemD (Draws.strAscii (A := X.A.in1) (I.ok.hd hc) it x t) he hit hg hne (by simpa using hne) fun u h' tk hu ho hit' hT hsz hk => ?_
    obtain ⟨a, u', ha, rfl⟩ := hu
    refine ⟨_, rfl, wpAny_letOwnedTupleGo_enum (s := { s with heap := h', toks := tk + 1 }) ho fun h'' he' sb => ?_⟩
    have hT2 : h''.get? s.heap.objs.size = some { cls := .type "tuple", data := .seq #[.int i tk, .str ⟨#[a]⟩ u'] } := (sb.2 _ (Nat.ne_of_gt lt1)).trans hT
    have new : ObjOk X.prog X.w (upd H s.heap.objs.size (.tup [.int (i : Nat), .str ⟨#[a]⟩])) h'' s.heap.objs.size (.tup [.int (i : Nat), .str ⟨#[a]⟩]) :=
      ⟨by show 2 ≤ sizeLine; decide, [.int i tk, .str ⟨#[a]⟩ u'], .cons ⟨_, rfl⟩ (.cons ⟨_, rfl⟩ .nil), ⟨_, hT2, rfl, _, rfl⟩⟩
    have I1 : L2.Inv X pins σ (upd H s.heap.objs.size (.tup [.int (i : Nat), .str ⟨#[a]⟩])) { s with heap := h'', toks := tk + 1 } :=
      I.turnedNew (ch := [e, it]) (fun b ob hb q => (sb.2 b (fun z => hb (by simp [z]))).trans (hk b ob (fun z => hb (by simp [z])) (fun z => hb (by simp [z])) q)) hf (Nat.le_refl _) new
    refine ⟨.ref s.heap.objs.size, _, I1, rfl, ⟨_, a, rfl, I.hok.fresh (Nat.le_refl _), rfl, ha⟩, ⟨⟨.str ⟨#[a]⟩ u', ?_⟩, ?_, hne⟩, fun b hb => ?_⟩
    · have e1 : ((i + 1 : Nat) : Int) = (i : Int) + 1 := by omega
      rw [e1]; exact he'
    · obtain ⟨o, q, r⟩ := hit'
      exact ⟨o, (sb.2 it (Ne.symm hne)).trans q, r⟩
    · have hb' : b < s.heap.objs.size := by
        have q : b = e ∨ b = it := by simpa using hb
        rcases q with z | z
        · rw [z]; exact lt1
        · rw [z]; exact lt2
      rw [upd_ne (Nat.ne_of_lt hb')]
      exact (hf b hb).1
  done := by
    intro X hP hw hK hc i pins s σ H E I hf st hg
    subst hP hw hK
    obtain ⟨⟨old, he⟩, hit, hne⟩ := st
    obtain ⟨f0, f1, f2, f3, f4, f5⟩ := hf it (by simp)
    have hx : x.cps[i]? = none := Array.getElem?_eq_none hg
    have hT : s.TypeIs (.ref e) "enumerate" := ⟨_, he, rfl⟩
    unfold pyNext
    refine wpAny_bind (wpAny_attempt (wpAny_callSpecial?_slot (name := Str.ofString "__next__") hT F.slot_enumerate_next (wpAny_call_entry F.slot_enumerate_next hT F.entry_enumerate_next ?_ (F.args_enumerate_next_1 _))))
    show wpAny _ _ (field (.ref e) 2 >>= _) _ _ _
    refine wpAny_bind (wpAny_field he rfl (x := .ref it) rfl ?_)
    refine wpAny_bind (wpAny_nextOf_ascii_end (A := X.A.in1) (I.ok.hd hc) hit hx fun h' y eb hy => ?_)
    obtain ⟨o, ho, hco⟩ := hy
    refine wpAny_bind (wpAny_isInstance (T := "StopIteration") (b := true) ⟨o, ho, hco⟩ isSubtype_stop ?_)
    exact wpAny_pure ⟨rfl, I.turned (t' := s.toks) (fun b o hb q => eb b o hb q) f0 f1 f3 f4 f5⟩
  self := fun A i s Q E st h => let ⟨⟨_, he⟩, _⟩ := st; wpAny_pyIter_enum he h
def iEnumS (ta : TA) : TI := fun σ H R => ta σ H fun vs H1 => ∃ x : Str, vs = [.str x] ∧ x.cps.all (· < 128) = true ∧ R (Ites x) H1
theorem pi_enumS {X : Cx} {e : Expr} {ta : TA} {p pos tpos : Pos} {elts : List Expr} {kk : Nat} (hg : Gl X "enumerate") (hm : X.mg "enumerate" = none) (ha : PA X [e] ta) (hs : starEach [e] X.env = [(false, eval e X.env)] := by rfl) :
    PI X (.Tuple elts kk tpos) (.Call (.Name "enumerate" p) [e] [] pos) (iEnumS ta) := by
  refine ⟨fun pins s σ H R I h => ?_⟩
  refine Call_ (ld_blt I hg hm boot_enumerate (PyProof.Rows.callWith_type1 (thn (ha.run pos pins s σ H _ I h) fun us s1 ⟨vs, H1, I1, r1, q1⟩ => ?_) hs rfl))
  obtain ⟨x, ex, hx, q⟩ := q1
  subst ex
  cases r1 with
  | cons r rr =>
    cases rr
    obtain ⟨t, rfl⟩ := r
    refine call_enumerate_str fun h' he hit hsz hk => wpAny_pyIter_enum he ?_
    have I2 : L2.Inv X pins σ H1 { s1 with heap := h' } := I1.kept (t' := s1.toks) hk
    have ty : strIterType x = "str_ascii_iterator" := by unfold strIterType; rw [hx]; rfl
    rw [ty] at hit
    refine ⟨s1.heap.objs.size + 1, [s1.heap.objs.size + 1, s1.heap.objs.size], _, _, H1, rfl, I2, turn_enumS (s1.heap.objs.size + 1) s1.heap.objs.size x t, ⟨⟨.none, he⟩, hit, Nat.succ_ne_self _⟩, fun b hb => ?_, q⟩
    have z : b = s1.heap.objs.size + 1 ∨ b = s1.heap.objs.size := by simpa using hb
    have hle : s1.heap.objs.size ≤ b := by
      rcases z with z | z
      · rw [z]; exact Nat.le_add_right _ _
      · rw [z]; exact Nat.le_refl _
    exact I1.fpOk hle (I1.hok.fresh hle)
/-- as a list of pairs, by an iterator over a tuple of pairs -/
def pairsL : Nat → List Nat → List D
  | _, [] => []
  | i, a :: l => .tup true [.int (.ofNat i), .str [a]] :: pairsL (i + 1) l
theorem pairsL_get : ∀ {l : List Nat} {j i : Nat}, (pairsL j l)[i]? = (l[i]?).map fun a => D.tup true [.int (.ofNat (j + i)), .str [a]]
  | [], j, i => by simp [pairsL]
  | a :: l, j, 0 => by simp [pairsL]
  | a :: l, j, i + 1 => by
    show (pairsL (j + 1) l)[i]? = _
    rw [pairsL_get]
    simp only [List.getElem?_cons_succ]
    congr 1
    funext a
    rw [show j + 1 + i = j + (i + 1) by omega]
def iEnmS (a : Av) : Iv := fun c env S => (a c env S).bind fun ds S1 => match ds with
  | [.str l] => match l.all (· < 128) with
    | true => .ok (.tup (pairsL 0 l)) S1
    | false => .no
  | _ => .no
section
variable {G : GT} {W : WX'} {c : Cal} {ρ ρ' : Po → Addr} {S S' : Sto} {H H' : Hp} {σ : List (Option V)} {X : Cx} {env : Slots}
theorem zr_enms {l : List Nat} : ZR G ρ S H (.tup (pairsL 0 l)) (Ites (toS l)) := by
  intro i ρ1 S1 H1 E1 R1
  simp only [Iz.at]
  have e : ∀ j, (toS l).cps[j]? = l[j]? := fun j => by rw [← Array.getElem?_toList, toS_cps]
  have es : (toS l).cps.size = l.length := by rw [← Array.length_toList, toS_cps]
  rw [pairsL_get]
  cases hx : l[i]? with
  | none => exact (by rw [es]; exact List.getElem?_eq_none_iff.mp hx : (toS l).cps.size ≤ i)
  | some a =>
    refine ⟨?_, fun x H' y => ?_⟩
    · have : i < l.length := by
        rcases Nat.lt_or_ge i l.length with q | q
        · exact q
        · rw [List.getElem?_eq_none q] at hx; cases hx
      exact (by rw [es]; exact this : i < (toS l).cps.size)
    · obtain ⟨T, b, rfl, hT, rfl, hb⟩ := y
      rw [e, hx] at hb
      cases hb
      have h1 : RV G ρ1 S1 H1 (.int (.ofNat (0 + i))) (.int (i : Nat)) := by simp only [RV, Nat.zero_add]; rfl
      have h2 : RV G ρ1 S1 H1 (.str [a]) (.str ⟨#[a]⟩) := by simp only [RV]; rfl
      exact new_tup R1 hT (RVs.cons h1 (RVs.one h2))
theorem x_ienmS {e : Expr} {v : Av} {p pos tpos : Pos} {elts : List Expr} {kk : Nat} (hg : Gl X "enumerate") (hm : X.mg "enumerate" = none) (ha : PA X [e] (tA G W c v)) (hs : starEach [e] X.env = [(false, eval e X.env)] := by rfl) :
    PI X (.Tuple elts kk tpos) (.Call (.Name "enumerate" p) [e] [] pos) (tI G W c (iEnmS v)) := by
  refine pi_imp (pi_enumS hg hm ha hs) fun σ H Q h => ?_
  obtain ⟨ρ, S, env, R, re, h⟩ := h
  refine ⟨ρ, S, env, R, re, PE1.bind h fun ρ1 S1 H1 ds E1 R1 h1 xs rx => ?_⟩
  split at h1
  · rename_i l
    split at h1
    · rename_i hl
      obtain ⟨x, rfl, r⟩ := rx.one_inv
      simp only [RV] at r
      subst r
      exact ⟨toS l, rfl, by rw [← Array.all_toList, toS_cps]; exact hl, h1 ρ1 H1 Ext.refl R1 _ zr_enms⟩
    · exact h1.elim
  · exact h1.elim
/-! ### x[i] = y of a list -/
def sPutL (o i e : Ev) : Sv := fun c env S => (e c env S).bindS env fun d S1 => (o c env S1).bindS env fun x S2 => (i c env S2).bindS env fun k S3 => match x, k with
  | .obj p, .int j => match S3.get p with
    | some (.lst 0 xs) => match ixN xs.length j with
      | some m => .nx env (S3.put p (.lst 0 (xs.set m d)))
      | none => .no
    | _ => .no
  | _, _ => .no
theorem x_putl {o i e : Expr} {vo vi v : Ev} {sp pos : Pos} (ho : PE X o (tE G W c vo)) (hi : PE X i (tE G W c vi)) (he : PE X e (tE G W c v)) (hs : swapsWithSole [.Subscript o i sp] e pos.line X.env = pure false := by rfl) (hw : swappedStores [.Subscript o i sp] e X.env = pure none := by rfl)
    (h1 : (assignEach [.Subscript o i sp] X.env).map (·.2) = [assign (.Subscript o i sp) X.env] := by rfl)
    (ha : ∀ v, assign (.Subscript o i sp) X.env v = (do
      let ov ← holding [v] (eval o X.env)
      let iv ← holding [v, ov] (eval i X.env)
      standAt sp
      holding [v, ov, iv] (setItem ov iv v)
      release [v, ov, iv] []) := by intro _; rfl) : PS X (.Assign [.Subscript o i sp] e pos) (tS G W c (sPutL vo vi v)) := by
  refine ps_imp (ps_asg he (pg_sub ho hi set_list ha) hs hw h1) fun D σ H h => ?_
  obtain ⟨ρ, S, env, R, re, h⟩ := h
  refine ⟨ρ, S, env, R, re, PS1.bind h re R fun ρ1 S1 H1 d E1 R1 h1 x rx => ?_⟩
  have re1 := re.ext E1 R
  refine ⟨ρ1, S1, env, R1, re1, PS1.bind h1 re1 R1 fun ρ2 S2 H2 ov E2 R2' h2 xv ro => ?_⟩
  have re2 := re1.ext E2 R1
  refine ⟨ρ2, S2, env, R2', re2, PS1.bind h2 re2 R2' fun ρ3 S3 H3 kv E3 R3 h3 yv rk => ?_⟩
  have ro3 := ro.ext E3 R2'
  have rx3 := (rx.ext E2 R1).ext E3 R2'
  split at h3
  · rename_i p j
    split at h3
    · rename_i xs e1
      split at h3
      · rename_i m e2
        simp only [RV] at ro3 rk
        obtain ⟨rfl, _⟩ := ro3
        subst rk
        obtain ⟨vs, t, q⟩ := R3.ob p _ e1
        obtain ⟨E4, R4⟩ := put_lst R3 e1 t (q.set (i := m) rx3)
        exact ⟨_, vs, j, m, rfl, rfl, t, by rw [q.length]; exact e2, h3 ρ3 _ σ E4 R4 ((re2.ext E3 R2').ext E4 R3)⟩
      · exact h3.elim
    · exact h3.elim
  · exact h3.elim
/-! ### {} -/
def eDnew : Ev := fun _ _ S => mkO (.dic false []) S
theorem x_dnew {pos : Pos} : PE X (.Dict [] [] pos) (tE G W c eDnew) := by
  refine pe_imp pe_dnewK fun σ H Q h => ?_
  obtain ⟨ρ, S, env, R, re, h⟩ := h
  intro p hp
  obtain ⟨q, rv⟩ := mkO_ok (o := .dic false []) R h hp (upd_keeps hp) fun E => ⟨[], rfl, by rw [if_neg Bool.false_ne_true]; exact upd_same⟩
  exact q _ rv
/-! ### raise, an own class with a text -/
def sRaise (k : Nat) : Sv := fun _ env S => .ex k [] env S
theorem x_raise {k : Nat} {x m : Str} {j : Nat} {p p2 pos pos' : Pos} (hc : X.calm = true) (tk : Takes X W) (hK : X.K = G.K) (q : PySem.W.excIn X.K (G.ca k) He.veBase "ValueError.__new__" = true) (gC : X.mg x = some (.ref (G.ca k))) (kC : PySem.W.keepIn X.K (.ref (G.ca k)) = true)
    (h1 : PySem.W.subIn X.K (.ref (G.ca k)) (.type "BaseException") = some true) (h2 : PySem.W.typeIn X.K (.ref (G.ca k)) = some (.type "type")) (hg : Gl X x) (hdb : (x == ("__debug__" : Str)) = false := by decide) :
    PS X (.Raise (some (.Call (.Name x p) [.Constant (.str m) j p2] [] pos)) none pos') (tS G W c (sRaise k)) := by
  refine ps_imp (ps_raise hc tk (pmk_own PySem.F.excBase_ValueError q gC kC (raises_own h1 h2) hg hdb)) fun D σ H h => ?_
  obtain ⟨ρ, S, env, R, re, h⟩ := h
  exact h σ ρ H none Ext.refl R re (.inl ⟨rfl, rfl⟩)
end
end Ev
set_option Elab.async false
set_option linter.all false
set_option maxRecDepth 100000
namespace Ev
open PySem PySem.Spec PyProof.Rows L2 PpSet
/-! ### {e for g in it if q}, e an int or a text -/
def tScE (P : Program) (w : World) (wi : TI) (g : TG) (tt : WX → TT) (te : WX → TE) (W : WX) (vs : List Nat) : TE := fun σ H Q => wi σ H fun J H1 => ∀ D, H1 D = none → ∃ T : Nat → Nat → Hp → Prop, (∃ m, T 0 m (upd H1 D (SetK P w D (fun _ => false) 0))) ∧ ∀ i m H, T i m H →
  (J.stop i H ∧ Q (.ref D) H) ∨ (J.go i H ∧ ∃ Nx : Hp → Prop, (∀ H', Nx H' → ∃ m', m' < m ∧ T (i + 1) m' H') ∧ ∀ x H', J.yld i H x H' → g x (wipe σ vs) H' fun σ2 H2 => wipe σ2 vs = wipe σ vs ∧ tt (inW W σ) σ2 H2 fun b H3 =>
    if b = true then te (inW W σ) σ2 H3 fun y H4 => ∃ (k : Key) (S : Key → Bool) (n : Nat), y = kV k ∧ H4 D = some (SetK P w D S n) ∧ n + 1 < scanBound ∧ Nx (upd H4 D (SetK P w D (fun j => S j || decide (j = k)) (if S k = true then n else n + 1))) else Nx H3)
section
variable {X : Cx} {W : WX} {pins : List (Addr × Obj)} {σ : L2.St} {H H3 : Hp} {s s3 : Shared} {Q : VK}
theorem scE_core {elt tg iter : Expr} {ifs : List Expr} {scope : Scope} {own : List (Str × Nat)} {pos pos' : Pos} {wi : TI} {g : TG} {tt : WX → TT} {te : WX → TE} {use : Option (Value → Sem Unit)} {Qf : Value → Shared → Prop} (hs : X.stack = X.env :: X.outer) (hf : X.env.frame = some X.env.locals) (tk : Takes X W)
    (hc : X.calm = true) (hN : X.N.Nodup) (I : L2.Inv X pins σ H s) (hi : PI X tg iter wi) (ok : BlkOk X.N X.env.scope scope own)
    (hg : ∀ (s : Shared) (H : Hp) (C : Addr) (cl : List (Str × Addr)) (fp : List Addr) (E : Value → Shared → Prop), PG (blkE X s H scope (compEnvC scope cl C X.env) fp E) tg g)
    (ht : ∀ (s : Shared) (H : Hp) (C : Addr) (cl : List (Str × Addr)) (fp : List Addr) (E : Value → Shared → Prop) (W' : WX), Takes (blkE X s H scope (compEnvC scope cl C X.env) fp E) W' → PTs (blkE X s H scope (compEnvC scope cl C X.env) fp E) ifs (tt W'))
    (he : ∀ (s : Shared) (H : Hp) (C : Addr) (cl : List (Str × Addr)) (fp : List Addr) (E : Value → Shared → Prop) (W' : WX), Takes (blkE X s H scope (compEnvC scope cl C X.env) fp E) W' → PE (blkE X s H scope (compEnvC scope cl C X.env) fp E) elt (te W'))
    (hst : ∀ x, foldedSetIterable iter X.env x = pure x) (h : tScE X.prog X.w wi g tt te W (own.map (·.2)) σ H Q)
    (last : ∀ D C t m H' ce, L2.Inv X pins σ H' t → Q (.ref D) H' → ce.locals = C → t.heap.Ns C m → FpOk X pins H' C → lcPost (model X.prog X.w) X.A X.xe use Qf (.ref D) ce (.ok .next) t) :
    wpAny (model X.prog X.w) X.A (comprehension (.SetComp elt [⟨tg, iter, ifs, 0⟩] scope pos) scope X.env pos' (newSet (.type "set")) false (eval iter X.env) use) Qf X.xe s := by
  have closed : ∀ y ∈ scope.names, y.2 = .free → ∃ c, X.env.cells.lookup y.1 = some c := fun y hy e => (ok.free y hy e).elim (fun k => I.ok.has _ (.inl k)) fun k => I.ok.has _ (.inr k)
  refine comprehension_x rfl hst (closure_ok closed) ok.kind (fun y hy e => by rw [ok.uniq y hy, e]) (thn (hi.run pins s σ H _ I h) fun xv s1 hx => thn hx fun itv s2 h2 => ?_)
  obtain ⟨it, fp, tn, J, H2, e, I2, T, st2, f2, q⟩ := h2
  subst e
  refine newSet_ok (newEnv_comp ?_)
  generalize hD : s2.heap.objs.size = D
  have freshD : H2 D = none := I2.hok.fresh (Nat.le_of_eq hD)
  obtain ⟨Tm, ⟨m0, w0⟩, turn⟩ := q D freshD
  generalize hs3 : ({ s2 with heap := s2.heap.push { cls := .type "set", dict := none, data := .set #[] 0 (.fresh 0 0 (!X.w.params.followText "set-order")) } } : Shared) = s3
  have h3 : s3.heap = s2.heap.push { cls := .type "set", dict := none, data := .set #[] 0 (.fresh 0 0 (!X.w.params.followText "set-order")) } := by rw [← hs3]
  have I3 : L2.Inv X pins σ (upd H2 D (SetK X.prog X.w D (fun _ => false) 0)) s3 := by
    rw [← hs3]
    refine I2.laid (t' := s2.toks) (fun b o z => Heap.get?_push_of_some _ z) (Nat.le_of_eq hD) ?_
    rw [← hD]
    exact setK_new ⟨_, #[], 0, _, Heap.get?_push_size _ rfl, ⟨rfl, rfl, rfl⟩, rfl, (fun e he => by simp at he), (fun k => by simp), (by decide), (by rfl), rfl⟩
  have small : ∀ b ∈ fp, b < s2.heap.objs.size := fun b hb => let ⟨_, z, _⟩ := T.obj _ _ st2 b hb; Heap.lt_size z
  have f3 : ∀ b ∈ fp, FpOk X pins (upd H2 D (SetK X.prog X.w D (fun _ => false) 0)) b ∧ b < s3.heap.objs.size := fun b hb =>
    ⟨⟨(upd_ne (by rw [← hD]; exact Nat.ne_of_lt (small b hb))).trans (f2 b hb).1, (f2 b hb).2⟩, by rw [h3, Heap.size_push]; exact Nat.lt_succ_of_lt (small b hb)⟩
  have st3 : tn 0 s3.heap := T.keep _ _ _ st2 fun b _ o z => by rw [h3]; exact Heap.get?_push_of_some _ z
  have I4 := block_start I3 ok hN f3
  have none3 : ∀ b ∈ fp, (upd H2 D (SetK X.prog X.w D (fun _ => false) 0)) b = none := fun b hb => (f3 b hb).1.1
  generalize hcl : cellsFrom (s3.heap.objs.size + 1) scope.names (cloFrom X.env.cells scope.names []) = cl at I4 ⊢
  show codeAny _ _ (.compStart (.SetComp elt [⟨tg, iter, ifs, 0⟩] scope pos) 0 (.ref it) (.ref D) (compEnvC scope cl s3.heap.objs.size X.env)) (lcPost (model X.prog X.w) X.A X.xe use Qf (.ref D) (compEnvC scope cl s3.heap.objs.size X.env))
    { s3 with heap := pushCells (s3.heap.push { cls := .type "dict", data := .dict #[] }) scope.names }
  have tk2 := takes_blk (scope := scope) (ce := compEnvC scope cl s3.heap.objs.size X.env) (use := use) (Qf := Qf) (acc := .ref D) hs hf tk rfl I3 rfl f3
  have pg := hg s3 (upd H2 D (SetK X.prog X.w D (fun _ => false) 0)) s3.heap.objs.size cl fp (notedBy (model X.prog X.w) X.A (compEnvC scope cl s3.heap.objs.size X.env) fun e t => lcPost (model X.prog X.w) X.A X.xe use Qf (.ref D) (compEnvC scope cl s3.heap.objs.size X.env) (.error e) t)
  have pt := ht s3 (upd H2 D (SetK X.prog X.w D (fun _ => false) 0)) s3.heap.objs.size cl fp _ _ tk2
  have pe := he s3 (upd H2 D (SetK X.prog X.w D (fun _ => false) 0)) s3.heap.objs.size cl fp _ _ tk2
  generalize hce : compEnvC scope cl s3.heap.objs.size X.env = ce at I4 pg pt pe ⊢
  have cL : ce.locals = s3.heap.objs.size := by subst hce; rfl
  generalize hH3 : upd H2 D (SetK X.prog X.w D (fun _ => false) 0) = H3 at I3 I4 pg pt pe w0 none3 f3
  generalize hs4 : ({ s3 with heap := pushCells (s3.heap.push { cls := .type "dict", data := .dict #[] }) scope.names } : Shared) = s4 at I4 ⊢
  have st4 : tn 0 s4.heap := T.keep _ _ _ st3 fun b _ o z => by rw [← hs4]; exact pushCells_keeps _ _ _ _ (Heap.get?_push_of_some _ z)
  have still : ∀ {σ' : L2.St} {H' : Hp} {s' : Shared}, L2.Inv (X.blk s3 H3 scope ce fp) [] σ' H' s' → (∀ b ∈ fp, H' b = none) → ∀ b ∈ fp, FpOk (X.blk s3 H3 scope ce fp) [] H' b := fun {σ' H' s'} I' hn b hb =>
    ⟨hn b hb, (I'.ok.exf b hb).1, I'.ok.exfs b hb, .inl hb, (I'.ok.exf b hb).2, fun p hp => absurd hp List.not_mem_nil⟩
  have loop : codeAny (model X.prog X.w) X.A (.compLoop (.SetComp elt [⟨tg, iter, ifs, 0⟩] scope pos) 0 (.ref it) (.ref D) ce) (lcPost (model X.prog X.w) X.A X.xe use Qf (.ref D) ce) s4 := by
    refine compLoopS_any (fun n t => ∃ i H', L2.Inv (X.blk s3 H3 scope ce fp) [] (wipe σ (own.map (·.2))) H' t ∧ tn i t.heap ∧ (∀ b ∈ fp, H' b = none) ∧ Tm i n H') ?_ m0 ⟨0, H3, I4, st4, none3, w0⟩
    rintro n s5 ⟨i, H5, I5, st5, n5, w5⟩
    have J5 := I5.wish (notedBy (model X.prog X.w) X.A ce fun e t => lcPost (model X.prog X.w) X.A X.xe use Qf (.ref D) ce (.error e) t)
    rcases turn i n H5 w5 with ⟨stop, qq⟩ | ⟨go, Nx, hNx, step⟩
    · refine wpAny_mono (T.done (X.blk s3 H3 scope ce fp) rfl rfl rfl hc i [] s5 _ H5 (fun _ _ => False) I5 (still I5 n5) st5 stop) (fun r s6 ⟨hr, I6⟩ => ?_) fun _ _ z => z.elim
      subst hr
      have I7 : L2.Inv X pins σ H5 s6 := I3.call' (ch := fp) I6.os I6.base I6.hok I6.bare fun b hb => ⟨(f3 b hb).1.2.2.2.1, (f3 b hb).1.2.1, (f3 b hb).1.2.2.2.2.1, (f3 b hb).1.2.2.2.2.2⟩
      have noC : H5 s3.heap.objs.size = none := by
        have z : H5 ce.locals = none := I6.free
        rw [cL] at z
        exact z
      obtain ⟨m, hn, _⟩ := I6.loc
      rw [cL] at hn
      exact last D _ s6 m H5 ce I7 qq cL hn (I3.fpOk (H' := H5) (Nat.le_refl _) noC)
    · refine wpAny_mono (T.item (X.blk s3 H3 scope ce fp) rfl rfl rfl hc i [] s5 _ H5 (fun _ _ => False) I5 (still I5 n5) st5 go) (fun r s6 ⟨u, hr, h6⟩ => ?_) fun _ _ z => z.elim
      subst hr
      refine wpAny_mono h6 (fun _ s7 ⟨x, H7, I7, r7, y7, st7, n7⟩ => ?_) fun _ _ z => z.elim
      have I7' := (I7.pinned (still I7 n7) (T.obj _ _ st7)).wish (notedBy (model X.prog X.w) X.A ce fun e t => lcPost (model X.prog X.w) X.A X.xe use Qf (.ref D) ce (.error e) t)
      refine thn (pg.run _ s7 _ H7 x u _ I7' r7 (step x H7 y7)) fun _ s8 ⟨σ8, H8, I8, hw8, q8⟩ => ?_
      refine thn (pt.run _ s8 σ8 H8 _ I8 q8) fun b s9 ⟨H9, I9, q9⟩ => ?_
      have fin : ∀ {s' : Shared} {H' : Hp}, L2.Inv (X.blk s3 H3 scope ce fp) ([] ++ pinsAt fp s7.heap) σ8 H' s' → Nx H' →
          ∃ m, m < n ∧ ∃ i H', L2.Inv (X.blk s3 H3 scope ce fp) [] (wipe σ (own.map (·.2))) H' s' ∧ tn i s'.heap ∧ (∀ b ∈ fp, H' b = none) ∧ Tm i m H' := fun {s' H'} K' nx => by
        obtain ⟨m', hm, w'⟩ := hNx H' nx
        have pin' : ∀ b ∈ fp, ∀ o, s7.heap.get? b = some o → s'.heap.get? b = some o ∧ H' b = none := fun b hb o z =>
          let y := K'.pin (b, o) (List.mem_append_right _ (List.mem_append_right _ (mem_pinsAt hb z)))
          ⟨y.1, y.2.1⟩
        refine ⟨m', hm, i + 1, H', (K'.unpinned (pins := [])).weak (by rw [← hw8, wipe_length]) (fun j v z => ?_), T.keep _ _ _ st7 fun b hb o z => (pin' b hb o z).1, fun b hb => ?_, w'⟩
        · rw [← hw8] at z
          exact (wipe_some z).1
        · obtain ⟨o, z, _⟩ := T.obj _ _ st7 b hb
          exact (pin' b hb o z).2
      cases b with
      | false =>
        simp only [Bool.false_eq_true, if_false] at q9 ⊢
        exact fin I9.unwish q9
      | true =>
        simp only [if_true] at q9 ⊢
        refine thn (pe.run _ s9 σ8 H9 _ I9 q9) fun z s10 ⟨yv, H10, I10, r10, k, S0, n0, ey, hD10, hz10, nx⟩ => ?_
        subst ey
        refine thn (mt_saddK (X := blkE X s3 H3 scope ce fp (notedBy (model X.prog X.w) X.A ce fun e t => lcPost (model X.prog X.w) X.A X.xe use Qf (.ref D) ce (.error e) t)) _ s10 σ8 H10 (.ref D) [kV k] (.ref D) [z] (fun _ H11 => Nx H11) I10 rfl (.cons r10 .nil) ⟨D, k, S0, n0, rfl, rfl, hD10, hz10, nx⟩) fun _ s11 ⟨_, H11, I11, _, nx11⟩ => fin I11.unwish nx11
  exact codeAny_compStart_set loop (T.self X.A 0 _ _ _ st4 loop)
theorem pe_scE {elt tg iter : Expr} {ifs : List Expr} {scope : Scope} {own : List (Str × Nat)} {pos : Pos} {wi : TI} {g : TG} {tt : WX → TT} {te : WX → TE} (hs : X.stack = X.env :: X.outer) (hf : X.env.frame = some X.env.locals) (tk : Takes X W)
    (hc : X.calm = true) (hN : X.N.Nodup) (hi : PI X tg iter wi) (ok : BlkOk X.N X.env.scope scope own)
    (hg : ∀ (s : Shared) (H : Hp) (C : Addr) (cl : List (Str × Addr)) (fp : List Addr) (E : Value → Shared → Prop), PG (blkE X s H scope (compEnvC scope cl C X.env) fp E) tg g)
    (ht : ∀ (s : Shared) (H : Hp) (C : Addr) (cl : List (Str × Addr)) (fp : List Addr) (E : Value → Shared → Prop) (W' : WX), Takes (blkE X s H scope (compEnvC scope cl C X.env) fp E) W' → PTs (blkE X s H scope (compEnvC scope cl C X.env) fp E) ifs (tt W'))
    (he : ∀ (s : Shared) (H : Hp) (C : Addr) (cl : List (Str × Addr)) (fp : List Addr) (E : Value → Shared → Prop) (W' : WX), Takes (blkE X s H scope (compEnvC scope cl C X.env) fp E) W' → PE (blkE X s H scope (compEnvC scope cl C X.env) fp E) elt (te W'))
    (hst : ∀ x, foldedSetIterable iter X.env x = pure x := by intro _; rfl) : PE X (.SetComp elt [⟨tg, iter, ifs, 0⟩] scope pos) (tScE X.prog X.w wi g tt te W (own.map (·.2))) := by
  refine ⟨fun pins s σ H Q I h => ?_⟩
  rw [eval_SetComp]
  refine scE_core hs hf tk hc hN I hi ok hg ht he hst h fun D C t m H' ce J q hL hn f => ⟨m, by rw [hL]; exact hn, fun h2 sb => ?_⟩
  obtain ⟨g0, g1, g2, g3, g4, g5⟩ := f
  rw [hL] at sb
  exact ⟨.ref D, H', J.turned (t' := t.toks) (it := C) (fun b o hb z => (sb.2 b hb).trans z) g0 g1 g3 g4 g5, rfl, q⟩
/-- len of such a set -/
def rLenK (P : Program) (w : World) : List V → Hp → VK → Prop := fun xs H Q => ∃ a S n, xs = [.ref a] ∧ H a = some (SetK P w a S n) ∧ n < scanBound ∧ Q (.int n) H
theorem cr_lenK : CallR X (.builtin "len") (rLenK X.prog X.w) := by
  intro pins s σ H xs us Q I r h
  obtain ⟨a, S, n, rfl, ha, hn', q⟩ := h
  cases r with
  | cons r1 rs =>
    cases rs
    cases r1
    obtain ⟨o, es, ep, t, ho, hex, hd, _, _, _, hf, hn⟩ := setK_get I ha
    have hb : scanBound = 4096 := rfl
    exact call_len_set ho hex hd hf (by rw [hn]; omega) ⟨.int n, H, I.tok _, ⟨_, by rw [hn]⟩, q⟩
end
def addK (acc : List Ky) (k : Ky) : List Ky := match acc.any fun a => kyb a k with
  | true => acc
  | false => acc ++ [k]
def scF (z : Iz) (g : Gv) (q : Tv) (e : Ev) (c : Cal) (env : Slots) : Nat → Nat → List Ky → Sto → Rs (List Ky)
  | 0, _, _, _ => .no
  | n + 1, i, acc, S => match z.at i S with
    | none => .no
    | some none => match Nat.blt acc.length 4000 with
      | true => .ok acc S
      | false => .no
    | some (some d) => match g d env S with
      | none => .no
      | some (env1, S1) => match q c env1 S1 with
        | .ok true S2 => match e c env1 S2 with
          | .ok v S3 => match keyD v with
            | some k => match Nat.blt acc.length 4000 with
              | true => scF z g q e c env n (i + 1) (addK acc k) S3
              | false => .no
            | none => .no
          | .ex k fs S3 => .ex k fs S3
          | .no => .no
        | .ok false S2 => scF z g q e c env n (i + 1) acc S2
        | .ex k fs S2 => .ex k fs S2
        | .no => .no
/-- len({e for g in it if q}) -/
def eLenSc (vs : List Nat) (it : Iv) (g : Gv) (q : Tv) (e : Ev) : Ev := fun c env S => (it c env S).bind fun z S1 => (scF z g q e c (wipeD env vs) (z.fuel S1) 0 [] S1).bind fun ks S2 => .ok (.int (.ofNat ks.length)) S2
section
variable {G : GT} {W : WX'} {c : Cal} {ρ ρ' ρ0 : Po → Addr} {S S' S0 : Sto} {H H' H0 : Hp} {σ : List (Option V)} {X : Cx} {env : Slots} {D : Addr} {P : Program} {w : World}
def memK (acc : List Ky) : Key → Bool := fun j => acc.any fun a => decide (j = ky a)
theorem memK_add (acc : List Ky) (k : Ky) : (fun j => memK acc j || decide (j = ky k)) = memK (addK acc k) ∧ (if memK acc (ky k) = true then acc.length else acc.length + 1) = (addK acc k).length := by
  have e : memK acc (ky k) = acc.any fun a => kyb a k := by
    unfold memK
    congr 1
    funext a
    cases z : kyb a k with
    | true => rw [kyb_iff.mp z]; exact decide_eq_true rfl
    | false => exact decide_eq_false fun y => by rw [kyb_iff.mpr (ky_inj y.symm)] at z; cases z
  unfold addK
  rw [e]
  cases z : acc.any fun a => kyb a k with
  | true =>
    refine ⟨funext fun j => ?_, rfl⟩
    by_cases hj : j = ky k
    · rw [hj, e, z]; rfl
    · rw [decide_eq_false hj, Bool.or_false]
  | false =>
    refine ⟨funext fun j => ?_, by simp⟩
    show _ = memK (acc ++ [k]) j
    unfold memK
    rw [List.any_append]
    simp
theorem vx_set {S1 S2 : Key → Bool} {n1 n2 : Nat} (h : H D = some (SetK P w D S1 n1)) : Vx G ρ S H ρ S (upd H D (SetK P w D S2 n2)) := by
  refine ⟨fun _ _ _ => rfl, fun _ o e => ⟨o, e⟩, fun b a vs t => ?_, fun a fs t => by rw [upd_ne (fun z => by rw [z, h] at t; cases t)]; exact t⟩
  have ne : ∀ {u : HO}, H a = some u → (∀ φ, u ≠ .ext φ) → a ≠ D := fun {u} e n z => by
    rw [z, h] at e
    cases e
    exact n _ rfl
  refine ⟨?_, fun hw => by rw [upd_ne (ne (t.2 hw) fun _ z => by cases z)]; exact t.2 hw⟩
  rcases t.1 with (e | ⟨ob, e⟩) | e
  · exact .inl (.inl (by rw [upd_ne (ne e fun _ z => by cases z)]; exact e))
  · exact .inl (.inr ⟨ob, by rw [upd_ne (ne e fun _ z => by cases z)]; exact e⟩)
  · exact .inr e
theorem RS.at_set {S1 S2 : Key → Bool} {n1 n2 : Nat} (R : RS G ρ S H) (h : H D = some (SetK P w D S1 n1)) (n : NotAt ρ S D) : RS G ρ S (upd H D (SetK P w D S2 n2)) := by
  refine ⟨fun p o hp => ?_, R.inj⟩
  have r := R.ob p o hp
  cases f : o.isRol with
  | false => exact RO.vx (vx_set h) r fun u e => by rw [upd_ne (n p o hp f)]; exact e
  | true =>
    cases o with
    | rol xs =>
      obtain ⟨vs, e, q⟩ := r
      refine ⟨vs, ?_, q.vx (vx_set h)⟩
      rcases e with ⟨ob, e⟩ | e
      · exact .inl ⟨ob, by rw [upd_ne (fun z => by rw [z, h] at e; cases e)]; exact e⟩
      · exact .inr e
    | _ => cases f
theorem tSc_of {vi : Iv} {g : Gv} {q : Tv} {v : Ev} {vs : List Nat} {Q : VK} (h : tE G W c (eLenSc vs vi g q v) σ H Q) :
    tCB (rLenK P w) (tCons (tScE P w (tI G W c vi) (tG G (Fram.wp vs) g) (fun W' => tT G W' c q) (fun W' => tE G W' c v) W vs) tNil) σ H Q := by
  obtain ⟨ρ, S, env, R, re, h⟩ := h
  refine ⟨ρ, S, env, R, re, PE1.bind h fun ρ0 S0 H0 z E0 R0 h0 J hz D hD => ?_⟩
  generalize hr : scF z g q v c (wipeD env vs) (z.fuel S0) 0 [] S0 = r0 at h0
  have re0 := (re.ext E0 R).wipe vs
  refine ⟨fun i m H1 => ∃ ρ1 S1 acc, H1 D = some (SetK P w D (memK acc) acc.length) ∧ Ext ρ0 S0 H0 ρ1 S1 H1 ∧ RS G ρ1 S1 H1 ∧ NotAt ρ1 S1 D ∧ RE G ρ1 S1 H1 (wipeD env vs) (L2.wipe σ vs) ∧ scF z g q v c (wipeD env vs) m i acc S1 = r0,
    ⟨z.fuel S0, ρ0, S0, [], upd_same, Ext.refl.at_new hD, R0.same (upd_keeps hD), NotAt.start R0 hD, re0.ext (Ext.same (upd_keeps hD)) R0, hr⟩, ?_⟩
  rintro i m H1 ⟨ρ1, S1, acc, hl, E1, R1, n1, re1, er⟩
  cases m with
  | zero => rw [← er] at h0; exact h0.elim
  | succ m =>
    have step := hz i ρ1 S1 H1 E1 R1
    unfold scF at er
    cases ha : z.at i S1 with
    | none => rw [ha] at er; rw [← er] at h0; exact h0.elim
    | some o =>
      rw [ha] at er step
      cases o with
      | none =>
        dsimp only at er
        cases hb : Nat.blt acc.length 4000 with
        | false => rw [hb] at er; rw [← er] at h0; exact h0.elim
        | true =>
          rw [hb] at er
          rw [← er] at h0
          have hlt : acc.length < 4000 := by rw [← Nat.blt_eq]; exact hb
          exact .inl ⟨step, D, _, _, rfl, hl, Nat.lt_trans hlt (by decide), h0 ρ1 H1 E1 R1 _ (by simp only [RV]; rfl)⟩
      | some d =>
        obtain ⟨go, yl⟩ := step
        dsimp only at er
        refine .inr ⟨go, fun H1 => ∃ ρ1 S1 acc, H1 D = some (SetK P w D (memK acc) acc.length) ∧ Ext ρ0 S0 H0 ρ1 S1 H1 ∧ RS G ρ1 S1 H1 ∧ NotAt ρ1 S1 D ∧ RE G ρ1 S1 H1 (wipeD env vs) (L2.wipe σ vs) ∧ scF z g q v c (wipeD env vs) m (i + 1) acc S1 = r0, fun H2 w => ⟨m, Nat.lt_succ_self m, w⟩, fun x H2 y => ?_⟩
        obtain ⟨E2, R2', rx⟩ := yl x H2 y
        refine ⟨ρ1, S1, wipeD env vs, d, R2', re1.ext E2 R1, rx, ?_⟩
        cases hgd : g d (wipeD env vs) S1 with
        | none => rw [hgd] at er; rw [← er] at h0; exact h0.elim
        | some p =>
          obtain ⟨env3, S3⟩ := p
          rw [hgd] at er
          dsimp only at er
          intro ρ3 H3 σ3 E3 R3 re3 fr3
          refine ⟨fr3.trans (wipe_sub fun _ hi => hi), ρ3, S3, env3, R3, re3, ?_⟩
          have X3 := (E1.trans E2).trans E3
          have Y3 := E2.trans E3
          cases hq : q c env3 S3 with
          | no => rw [hq] at er; rw [← er] at h0; exact h0.elim
          | ex k fs S4 =>
            rw [hq] at er
            rw [← er] at h0
            exact fun ρ4 H4 d4 E4 R4 xd => h0 ρ4 H4 d4 (X3.trans E4) R4 xd
          | ok b S4 =>
            rw [hq] at er
            intro ρ4 H4 E4 R4
            have X4 := X3.trans E4
            have Y4 := Y3.trans E4
            have l4 := Y4.stays n1 hl
            cases b with
            | false =>
              dsimp only at er
              (try unfold BRel); (try dsimp only); rw [if_neg Bool.false_ne_true]
              exact ⟨ρ4, S4, acc, l4, X4, R4, n1.ext Y4 hl, re1.ext Y4 R1, er⟩
            | true =>
              dsimp only at er
              (try unfold BRel); (try dsimp only); rw [if_pos rfl]
              refine ⟨ρ4, S4, env3, R4, re3.ext E4 R3, ?_⟩
              cases hv : v c env3 S4 with
              | no => rw [hv] at er; rw [← er] at h0; exact h0.elim
              | ex k fs S5 =>
                rw [hv] at er
                rw [← er] at h0
                exact fun ρ5 H5 d5 E5 R5 xd => h0 ρ5 H5 d5 (X4.trans E5) R5 xd
              | ok dv S5 =>
                rw [hv] at er
                dsimp only at er
                intro ρ5 H5 E5 R5 yv ry
                have X5 := X4.trans E5
                have Y5 := Y4.trans E5
                have l5 := Y5.stays n1 hl
                have n5 := n1.ext Y5 hl
                cases hk : keyD dv with
                | none => rw [hk] at er; rw [← er] at h0; exact h0.elim
                | some k =>
                  rw [hk] at er
                  dsimp only at er
                  cases hb : Nat.blt acc.length 4000 with
                  | false => rw [hb] at er; rw [← er] at h0; exact h0.elim
                  | true =>
                    rw [hb] at er
                    have hlt : acc.length < 4000 := by rw [← Nat.blt_eq]; exact hb
                    obtain ⟨m1, m2⟩ := memK_add acc k
                    have vx := vx_set (G := G) (ρ := ρ5) (S := S5) (S2 := memK (addK acc k)) (n2 := (addK acc k).length) l5
                    refine ⟨ky k, memK acc, acc.length, keyD_ok ry hk, l5, Nat.lt_trans (Nat.succ_lt_succ hlt) (by decide), ?_⟩
                    rw [m1, m2]
                    have r5 := re1.ext Y5 R1
                    exact ⟨ρ5, S5, addK acc k, upd_same, X5.at_new hD, R5.at_set l5 n5, n5, ⟨r5.1, fun j d e => let ⟨w, a, b⟩ := r5.2 j d e; ⟨w, a, b.vx vx⟩⟩, er⟩
theorem x_lenSc {elt tg iter : Expr} {ifs : List Expr} {scope : Scope} {own : List (Str × Nat)} {pos lp lpos : Pos} {vi : Iv} {g : Gv} {q : Tv} {v : Ev} {vs : List Nat} (hvs : own.map (·.2) = vs) (hgl : Gl X "len") (hml : X.mg "len" = none) (hs : X.stack = X.env :: X.outer) (hf : X.env.frame = some X.env.locals) (tk : Takes X W)
    (hc : X.calm = true) (hN : X.N.Nodup) (hi : PI X tg iter (tI G W c vi)) (ok : BlkOk X.N X.env.scope scope own)
    (hg : ∀ (s : Shared) (H : Hp) (C : Addr) (cl : List (Str × Addr)) (fp : List Addr) (E : Value → Shared → Prop), PG (blkE X s H scope (compEnvC scope cl C X.env) fp E) tg (tG G (Fram.wp vs) g))
    (ht : ∀ (s : Shared) (H : Hp) (C : Addr) (cl : List (Str × Addr)) (fp : List Addr) (E : Value → Shared → Prop) (W' : WX), Takes (blkE X s H scope (compEnvC scope cl C X.env) fp E) W' → PTs (blkE X s H scope (compEnvC scope cl C X.env) fp E) ifs (tT G W' c q))
    (he : ∀ (s : Shared) (H : Hp) (C : Addr) (cl : List (Str × Addr)) (fp : List Addr) (E : Value → Shared → Prop) (W' : WX), Takes (blkE X s H scope (compEnvC scope cl C X.env) fp E) W' → PE (blkE X s H scope (compEnvC scope cl C X.env) fp E) elt (tE G W' c v))
    (hst : ∀ x, foldedSetIterable iter X.env x = pure x := by intro _; rfl)
    (h1 : starEach [.SetComp elt [⟨tg, iter, ifs, 0⟩] scope pos] X.env = (false, eval (.SetComp elt [⟨tg, iter, ifs, 0⟩] scope pos) X.env) :: starEach [] X.env := by rfl) (hpl : (backTo lpos (starEach [] X.env)).any (·.1) = false := by rfl) :
    PE X (.Call (.Name "len" lp) [.SetComp elt [⟨tg, iter, ifs, 0⟩] scope pos] [] lpos) (tE G W c (eLenSc vs vi g q v)) := by
  refine pe_imp (pe_callB cr_lenK hgl hml boot_len (pa_cons (pe_scE (tt := fun W' => tT G W' c q) (te := fun W' => tE G W' c v) hs hf tk hc hN hi ok hg ht he hst) pa_nil h1) (by decide) (by decide) h1 hpl) fun σ H Q h => ?_
  rw [hvs]
  exact tSc_of h
end
end Ev
set_option Elab.async false
set_option linter.all false
set_option maxRecDepth 100000
namespace Ev
open PySem PySem.Spec PyProof.Rows L2
/-! ### repr -/
def bRepr : List D → Sto → Rs D := fun ds S => match ds with
  | [d] => match toDt S 60 d with
    | some t => match t.pd.showable && Nat.ble t.pd.shown.length big with
      | true => .ok (.str t.pd.shown.cps.toList) S
      | false => .no
    | none => .no
  | _ => .no
def rRepr (K : PySem.W.Frag) : List V → Hp → VK → Prop := fun xs H Q => ∃ x d, xs = [x] ∧ Dp K H x d ∧ d.hasDict = false ∧ d.depth ≤ 60 ∧ d.showable = true ∧ d.shown.length ≤ sizeLine ∧ Q (.str d.shown) H
mutual
theorem noDict0 : ∀ d : PyData, d.canLay0 = true → d.hasDict = false
  | .none, _ => rfl
  | .bool _, _ => rfl
  | .int _, _ => rfl
  | .str _, _ => rfl
  | .list xs, h => by
    have h' : PyData.canLayAll0 xs = true := by simpa [PyData.canLay0] using h
    simpa [PyData.hasDict] using noDictAll0 xs h'
  | .tuple xs, h => by
    have h' : PyData.canLayAll0 xs = true := by simpa [PyData.canLay0] using h
    simpa [PyData.hasDict] using noDictAll0 xs h'
  | .dict _, h => by simp [PyData.canLay0] at h
theorem noDictAll0 : ∀ ds : List PyData, PyData.canLayAll0 ds = true → PyData.hasDictAll ds = false
  | [], _ => rfl
  | d :: ds, h => by
    have h' : d.canLay0 = true ∧ PyData.canLayAll0 ds = true := by simpa [PyData.canLayAll0] using h
    simp [PyData.hasDictAll, noDict0 d h'.1, noDictAll0 ds h'.2]
end
section
variable {G : GT} {W : WX'} {X : Cx}
theorem cr_repr (hu : X.A.units + 65 < cLine) (hg : X.A.guards = some []) : CallR X (.builtin "repr") (rRepr X.K) := by
  intro pins s σ H xs us Q I r h
  obtain ⟨x, d, rfl, hd, hn, hp, hs, hz, q⟩ := h
  cases r with
  | @cons a u as bs r1 rs =>
    cases rs
    obtain ⟨as, rd⟩ := Dp.reads I d x u hd r1
    by_cases hdis : isDisplay d = true
    · obtain ⟨a, rfl⟩ := isRef_of_reads rd hdis
      refine repr_of_reads' rd hs (PyData.noDict_hsm hn) hg (by omega) (fun _ _ e => e) (fun h' u tk hk => ?_) hz
      exact ⟨.str d.shown, H, I.kept (t' := tk) hk, ⟨u, rfl⟩, q⟩
    · cases rd with
      | none => exact PySem.P.repr_of_none ⟨.str _, H, I.tok _, ⟨_, rfl⟩, q⟩
      | bool b => exact PySem.P.repr_of_bool ⟨.str _, H, I.tok _, ⟨_, rfl⟩, by cases b <;> exact q⟩
      | int i t => exact PySem.P.repr_of_int (of_decide_eq_true (show decide (i.natAbs.log2 < 1920) = true from hs)) ⟨.str _, H, I.tok _, ⟨_, rfl⟩, q⟩
      | str x t => exact PySem.P.repr_of_str ⟨.str _, H, I.tok _, ⟨_, rfl⟩, q⟩ hz
      | list _ _ _ _ => exact absurd rfl hdis
      | tuple _ _ _ _ => exact absurd rfl hdis
      | dict _ _ _ _ _ => simp [PyData.hasDict] at hn
theorem bRepr_ok : ServesL G W (rRepr G.K) bRepr := by
  intro σ ρ S H ds xs Q R rx h
  unfold bRepr at h
  split at h
  · split at h
    · rename_i d t e
      split at h
      · rename_i hc
        rw [Bool.and_eq_true] at hc
        obtain ⟨x, rfl, r⟩ := rx.one_inv
        obtain ⟨h1, h2, h3⟩ := toDt_ok R r e
        exact ⟨x, t.pd, rfl, h1, noDict0 _ h2, h3, hc.1, ble_line hc.2, fine R h (by simp only [RV]; rfl)⟩
      · exact h.elim
    · exact h.elim
  · exact h.elim
end
end Ev
set_option Elab.async false
set_option linter.all false
set_option maxRecDepth 100000
namespace Ev
open PySem PySem.Spec PyProof.Rows L2
/-! ### a dict of the top with text keys (its object is .fnr j) -/
def tabV : List (List Nat × D) → List Nat → Option D
  | [], _ => none
  | (k, d) :: r, l => match leq k l with
    | true => some d
    | false => tabV r l
/-- it holds just these -/
def TabIs (G : GT) (d : Addr) (kvs : List (List Nat × D)) : Prop := ∀ l, match tabV kvs l with
  | none => PySem.W.nsIn G.K d (toS l) = some none
  | some e => ∃ u v, PySem.W.nsIn G.K d (toS l) = some (some u) ∧ RelV v u ∧ ∀ ρ S H, RV G ρ S H e v
def kdIn (j : Nat) (kvs : List (List Nat × D)) : Op2 := fun x y S => match x, y with
  | .str l, .fnr i => match Nat.beq i j with
    | true => .ok (.bl (tabV kvs l).isSome) S
    | false => .no
  | _, _ => .no
def kdGet (j : Nat) (kvs : List (List Nat × D)) : Op2 := fun x y S => match x, y with
  | .fnr i, .str l => match Nat.beq i j with
    | true => match tabV kvs l with
      | some d => .ok d S
      | none => .no
    | false => .no
  | _, _ => .no
section
variable {G : GT} {W : WX'} {c : Cal} {ρ ρ' : Po → Addr} {S S' : Sto} {H H' : Hp} {σ : List (Option V)} {X : Cx} {env : Slots}
theorem kdIn_ok {j : Nat} {kvs : List (List Nat × D)} (T : TabIs G (G.fa j) kvs) : Serves G W (fun x y H Q => ∃ (z : Str) (r : Option Value), x = .str z ∧ y = .ref (G.fa j) ∧ PySem.W.nsIn G.K (G.fa j) z = some r ∧ Q (.bl r.isSome) H) (kdIn j kvs) := by
  intro σ ρ S H d e x y Q R rx ry h
  unfold kdIn at h
  split at h
  · rename_i l i
    simp only [RV] at rx ry
    split at h
    · rename_i hi
      have hi' := Nat.eq_of_beq_eq_true hi
      subst hi'
      have t := T l
      cases z : tabV kvs l with
      | none =>
        rw [z] at t h
        exact ⟨toS l, none, rx, ry, t, fine R h (by simp only [RV]; rfl)⟩
      | some d =>
        rw [z] at t h
        obtain ⟨u, v, e, _, _⟩ := t
        exact ⟨toS l, some u, rx, ry, e, fine R h (by simp only [RV]; rfl)⟩
    · exact h.elim
  · exact h.elim
theorem kdGet_ok {j : Nat} {kvs : List (List Nat × D)} {w : World} (T : TabIs G (G.fa j) kvs) (Kd : ∃ es n, KDict G.K w (G.fa j) es n) : Serves G W (rIxD G.K w) (kdGet j kvs) := by
  obtain ⟨es, n, Kd⟩ := Kd
  intro σ ρ S H d e x y Q R rx ry h
  unfold kdGet at h
  split at h
  · rename_i i l
    simp only [RV] at rx ry
    split at h
    · rename_i hi
      have hi' := Nat.eq_of_beq_eq_true hi
      subst hi'
      have t := T l
      cases z : tabV kvs l with
      | none => rw [z] at h; exact h.elim
      | some d =>
        rw [z] at t h
        obtain ⟨u, v, e, r, rv⟩ := t
        exact ⟨G.fa i, toS l, v, rx, ry, ⟨es, n, u, Kd.at_, Kd.lit, e, r⟩, fine R h (rv ρ S H)⟩
    · exact h.elim
  · exact h.elim
theorem x_gdict {x : Str} {j : Nat} {pos : Pos} (hg : Gl X x) (hm : X.mg x = some (.ref (G.fa j))) (hd : (x == ("__debug__" : Str)) = false := by decide) : PE X (.Name x pos) (tE G W c (eC (.fnr j))) :=
  x_gval (v := .ref (G.fa j)) hg ⟨_, hm, rfl⟩ (fun _ _ _ => by simp only [RV]) hd
theorem x_kdin {a b : Expr} {va vb : Ev} {j : Nat} {kvs : List (List Nat × D)} {pos : Pos} (hK : X.K = G.K) (T : TabIs G (G.fa j) kvs) (Kd : ∃ es n, KDict X.K X.w (G.fa j) es n) (ha : PE X a (tE G W c va)) (hb : PE X b (tE G W c vb)) (hm : behindInMarks .In b = false := by with_unfolding_all rfl) :
    PE X (.Compare a [.In] [b] pos) (tE G W c (eBin (kdIn j kvs) va vb)) := by
  obtain ⟨es, n, Kd⟩ := Kd
  exact x_cmp (op_in_kd Kd) (by rw [hK]; exact kdIn_ok T) ha hb hm
theorem x_tkdin {a b : Expr} {va vb : Ev} {j : Nat} {kvs : List (List Nat × D)} {pos : Pos} (hK : X.K = G.K) (T : TabIs G (G.fa j) kvs) (Kd : ∃ es n, KDict X.K X.w (G.fa j) es n) (ha : PE X a (tE G W c va)) (hb : PE X b (tE G W c vb)) (hm : behindInMarks .In b = false := by with_unfolding_all rfl) :
    PT X (.Compare a [.In] [b] pos) (tT G W c (tOf (eBin (kdIn j kvs) va vb))) := by
  obtain ⟨es, n, Kd⟩ := Kd
  exact x_tcmp (op_in_kd Kd) (by rw [hK]; exact kdIn_ok T) ha hb hm
theorem x_kdix {a b : Expr} {va vb : Ev} {j : Nat} {kvs : List (List Nat × D)} {pos : Pos} (hK : X.K = G.K) (T : TabIs G (G.fa j) kvs) (Kd : ∃ es n, KDict X.K X.w (G.fa j) es n) (ha : PE X a (tE G W c va)) (hb : PE X b (tE G W c vb)) (hp : PlainIx b := by intro _ _; rfl) :
    PE X (.Subscript a b pos) (tE G W c (eBin (kdGet j kvs) va vb)) :=
  x_ix ix_kdict (by rw [hK] at Kd ⊢; exact kdGet_ok T Kd) ha hb hp
end
/-! ### f(e, ..), f any expression whose value is one of these defs -/
def eCallV (js : List Nat) (f : Ev) (a : Av) : Ev := fun c env S => (f c env S).bind fun d S1 => match d with
  | .fnr j => match js.any (Nat.beq j) with
    | true => (a c env S1).bind fun ds S2 => c j ds S2
    | false => .no
  | _ => .no
section
variable {G : GT} {W : WX'} {c : Cal} {ρ ρ' : Po → Addr} {S S' : Sto} {H H' : Hp} {σ : List (Option V)} {X : Cx} {env : Slots} {k : Nat} {pos : Pos} {e fe : Expr} {es : List Expr}
theorem x_callV {js : List Nat} {f : Ev} {a : Av} {m : Nat} (hF : ∀ j ∈ js, ∃ (fd : FuncData) (ps : List Str), FnG X.prog X.w X.K X.mg X.base k (G.fa j) fd ps (spC G c j m) ∧ Binds X.K fd ps [] ∧ PySem.W.keepIn X.K (.ref (G.fa j)) = true) (hr : Room k X.A) (hu : X.A.guards = some [])
    (tk : Takes X W) (hf : PE X fe (tE G W c f)) (ha : PA X (e :: es) (tA G W c a)) (hl : AvLen a m)
    (hc : eval (.Call fe (e :: es) [] pos) X.env = (do callWith pos (← eval fe X.env) [] (backTo pos (starEach (e :: es) X.env)) (backToKw pos (keywordEach [] X.env))) := by rfl)
    (he : starEach (e :: es) X.env = (false, eval e X.env) :: starEach es X.env := by rfl) (hpl : (backTo pos (starEach es X.env)).any (·.1) = false := by rfl) : PE X (.Call fe (e :: es) [] pos) (tE G W c (eCallV js f a)) := by
  refine ⟨fun pins s σ H Q I h => ?_⟩
  obtain ⟨ρ, S, env, R, re, h⟩ := h
  refine Call_ ?_ hc
  have first := hf.run pins s σ H (fun x H1 => ∃ j ∈ js, x = .ref (G.fa j) ∧ tA G W c a σ H1 fun vs H2 => vs.length = m ∧ spC G c j m vs H2 Q (WE W σ)) I ⟨ρ, S, env, R, re, PE1.bind h fun ρ1 S1 H1 d E1 R1 h1 x rx => ?_⟩
  · refine thn first fun v s1 ⟨x, H1, I1, r1, j, hj, ex, q⟩ => ?_
    subst ex
    cases r1
    obtain ⟨fd, ps, F, hb, hk⟩ := hF j hj
    refine PySem.W.callWith_K (h₀ := X.base) I1.ok.mod.kin hk (thn (ha.run pos pins s1 σ H1 _ I1 q) fun us s2 ⟨vs, H2, I2, r2, l2, q2⟩ => ⟨I2.kIn, ?_⟩) he hpl
    have b := hb s2 us I2.kIn (by rw [List.append_nil, ← r2.length]; exact F.ar _ _ _ _ q2)
    rw [List.append_nil] at b
    exact run_G (as := ⟨us, []⟩) F hr hu (passAt tk σ) I2 b r2 q2
  · cases d with
    | fnr j =>
      dsimp only at h1
      cases z : js.any (Nat.beq j) with
      | false => rw [z] at h1; exact h1.elim
      | true =>
        rw [z] at h1
        obtain ⟨i, hi, e1⟩ := List.any_eq_true.mp z
        have e2 := Nat.eq_of_beq_eq_true e1
        subst e2
        simp only [RV] at rx
        refine ⟨j, hi, rx, ρ1, S1, env, R1, re.ext E1 R, ?_⟩
        cases z2 : a c env S1 with
        | no => rw [z2] at h1; exact h1.elim
        | ex q fs S2 => rw [z2] at h1; exact h1
        | ok ds S2 =>
          rw [z2] at h1
          intro ρ2 H2 E2 R2' xs rxs
          have l2 := hl c env S1 ds S2 z2
          exact ⟨by rw [rxs.length]; exact l2, ρ2, S2, ds, R2', rxs, l2, PE1.forget (PE1.later E2 (show PE1 G W (VRel G Q) σ ρ1 S1 H1 (c j ds S2) from h1))⟩
    | _ => exact h1.elim
end
/-! ### {k: v, ..} -/
def dpF : List (Ev × Ev) → Cal → Slots → Sto → Rs (List (Ky × D))
  | [], _, _, S => .ok [] S
  | (k, v) :: r, c, env, S => (k c env S).bind fun kd S1 => (v c env S1).bind fun d S2 => (dpF r c env S2).bind fun ps S3 => match keyD kd with
    | some k => .ok ((k, d) :: ps) S3
    | none => .no
def mrgD (acc : List (Ky × D)) (ps : List (Ky × D)) : List (Ky × D) := ps.foldl (fun a p => setK kyb a p.1 p.2) acc
def eDis (ps : List (Ev × Ev)) : Ev := fun c env S => (dpF ps c env S).bind fun kvs S1 => match Nat.ble kvs.length 15 with
  | true => mkO (.dic false (mrgD [] kvs)) S1
  | false => .no
section
variable {G : GT} {W : WX'} {c : Cal} {ρ ρ' ρ0 : Po → Addr} {S S' S0 : Sto} {H H' H0 : Hp} {σ : List (Option V)} {X : Cx} {env : Slots} {D : Addr}
theorem vx_new {u : HO} (h : H D = none) : Vx G ρ S H ρ S (upd H D u) := by
  have E : Ext ρ S H ρ S (upd H D u) := Ext.same (upd_keeps h)
  refine ⟨fun _ _ _ => rfl, fun _ o e => ⟨o, e⟩, fun w a vs t => ?_, fun a fs t => by rw [upd_ne (fun z => by rw [z, h] at t; cases t)]; exact t⟩
  have ne : ∀ {u : HO}, H a = some u → a ≠ D := fun {u} e z => by rw [z, h] at e; cases e
  refine ⟨?_, fun hw => by rw [upd_ne (ne (t.2 hw))]; exact t.2 hw⟩
  rcases t.1 with (e | ⟨ob, e⟩) | e
  · exact .inl (.inl (by rw [upd_ne (ne e)]; exact e))
  · exact .inl (.inr ⟨ob, by rw [upd_ne (ne e)]; exact e⟩)
  · exact .inr e
/-- the pairs, as they come -/
theorem tPairs_of {P : (Po → Addr) → Sto → Hp → List (Ky × Ev.D) → Prop} {Q : List (V × V) → Hp → Prop} : ∀ {ps : List (Ev × Ev)} {ρ : Po → Addr} {S : Sto} {H : Hp} {env : Slots}, RS G ρ S H → RE G ρ S H env σ →
    PE1 G W (fun ρ1 S1 H1 kvs => ∀ xs : List (Key × V), RK G ρ1 S1 H1 kvs xs → Q (xs.map fun kv => (kV kv.1, kv.2)) H1) σ ρ S H (dpF ps c env S) → tPairs (ps.map fun p => (tE G W c p.1, tE G W c p.2)) σ H Q
  | [], ρ, S, H, env, R, re, h => h ρ H Ext.refl R [] rfl
  | (k, v) :: r, ρ, S, H, env, R, re, h => by
    refine ⟨ρ, S, env, R, re, PE1.bind h fun ρ1 S1 H1 kd E1 R1 h1 x rx => ?_⟩
    have re1 := re.ext E1 R
    refine ⟨ρ1, S1, env, R1, re1, PE1.bind h1 fun ρ2 S2 H2 d E2 R2' h2 y ry => ?_⟩
    have re2 := re1.ext E2 R1
    refine tPairs_of (P := P) R2' re2 (PE1.bind h2 fun ρ3 S3 H3 kvs E3 R3 h3 xs rxs => ?_)
    cases hk : keyD kd with
    | none => rw [hk] at h3; exact h3.elim
    | some k =>
      rw [hk] at h3
      have e := keyD_ok rx hk
      subst e
      exact h3 ρ3 H3 Ext.refl R3 ((ky k, y) :: xs) ⟨y, xs, rfl, ry.ext E3 R2', rxs⟩
theorem RK.mrg : ∀ {ps acc : List (Ky × Ev.D)} {xs ys : List (Key × V)}, RK G ρ S H ps xs → RK G ρ S H acc ys → RK G ρ S H (mrgD acc ps) (mergeK ys xs)
  | [], acc, xs, ys, r, q => by rw [show xs = [] from r]; exact q
  | (k, d) :: ps, acc, xs, ys, r, q => by
    obtain ⟨v, t, rfl, r1, r2⟩ := r
    show RK G ρ S H (mrgD (setK kyb acc k d) ps) (mergeK (putK ys (ky k) v) t)
    exact RK.mrg r2 (RK.set r1 k q)
/-- what was built at D becomes a thing of the store -/
theorem adoptG {o : Ob} {H2 : Hp} (E : Ext ρ0 S0 H0 ρ S H) (R : RS G ρ S H) (n : NotAt ρ S D) (h0 : H0 D = none) (nf : ∀ ob u, H D ≠ some (.frz ob u)) (hn : S.get S.nx = none) (vx : Vx G ρ S H ρ S H2) (off : ∀ a, a ≠ D → H2 a = H a) (hD : ∃ u, H2 D = some u)
    (new : Vx G ρ S H (upR ρ S.nx D) (S.add o) H2 → RO G (upR ρ S.nx D) (S.add o) H2 D o) :
    Ext ρ0 S0 H0 (upR ρ S.nx D) (S.add o) H2 ∧ RS G (upR ρ S.nx D) (S.add o) H2 ∧ RV G (upR ρ S.nx D) (S.add o) H2 (.obj S.nx) (.ref D) := by
  have vx2 : Vx G ρ S H (upR ρ S.nx D) (S.add o) H2 := ⟨fun p o hp => upR_ne (ne_of_get hn hp), fun p o' hp => ⟨o', by rw [Sto.add_ne (ne_of_get hn hp)]; exact hp⟩, vx.tp, vx.xd⟩
  refine ⟨⟨fun p o' hp => ?_, fun p o' hp => ?_, fun p o' hp f => ?_, fun a u e na => ?_, fun p o' hp hp' => ?_, fun a e => ?_⟩, ⟨fun p o' hp => ?_, fun p q o1 o2 h1 h2 f1 f2 e => ?_⟩, ?_⟩
  · obtain ⟨o2, hp'⟩ := E.dom p o' hp
    rw [upR_ne (ne_of_get hn hp')]
    exact E.re p o' hp
  · obtain ⟨o2, hp'⟩ := E.dom p o' hp
    exact ⟨o2, by rw [Sto.add_ne (ne_of_get hn hp')]; exact hp'⟩
  · obtain ⟨o2, hp'⟩ := E.dom p o' hp
    rw [Sto.add_ne (ne_of_get hn hp')]
    exact E.lk p o' hp f
  · have ne : a ≠ D := fun z => by rw [z, h0] at e; cases e
    rw [off a ne]
    exact E.fr a u e na
  · by_cases z : p = S.nx
    · subst z; rw [upR_same]; exact h0
    · rw [Sto.add_ne z] at hp'
      rw [upR_ne z]
      exact E.nw p o' hp hp'
  · by_cases ne : a = D
    · rw [ne]; exact h0
    · rw [off a ne] at e
      exact E.dm a e
  · by_cases z : p = S.nx
    · subst z
      rw [Sto.add_same] at hp
      cases hp
      rw [upR_same]
      exact new vx2
    · rw [Sto.add_ne z] at hp
      rw [upR_ne z]
      have r := R.ob p o' hp
      cases f : o'.isRol with
      | false => exact RO.vx vx2 r fun u e => by rw [off _ (n p o' hp f)]; exact e
      | true =>
        cases o' with
        | rol xs =>
          obtain ⟨vs, e, q⟩ := r
          refine ⟨vs, ?_, q.vx vx2⟩
          rcases e with ⟨ob, e⟩ | e
          · exact .inl ⟨ob, by rw [off _ fun z => nf ob _ (by rw [← z]; exact e)]; exact e⟩
          · exact .inr e
        | _ => cases f
  · by_cases z1 : p = S.nx
    · by_cases z2 : q = S.nx
      · rw [z1, z2]
      · rw [Sto.add_ne z2] at h2
        rw [z1, upR_same, upR_ne z2] at e
        exact absurd e.symm (n q o2 h2 f2)
    · rw [Sto.add_ne z1] at h1
      by_cases z2 : q = S.nx
      · rw [z2, upR_same, upR_ne z1] at e
        exact absurd e (n p o1 h1 f1)
      · rw [Sto.add_ne z2] at h2
        rw [upR_ne z1, upR_ne z2] at e
        exact R.inj p q o1 o2 h1 h2 f1 f2 e
  · simp only [RV]
    exact ⟨by rw [upR_same], _, Sto.add_same⟩
theorem vx_dK {a b : List (Key × V)} (h : H D = some (.dK a)) : Vx G ρ S H ρ S (upd H D (.dK b)) := by
  refine ⟨fun _ _ _ => rfl, fun _ o e => ⟨o, e⟩, fun w a vs t => ?_, fun a fs t => by rw [upd_ne (fun z => by rw [z, h] at t; cases t)]; exact t⟩
  have ne : ∀ {u : HO}, H a = some u → (∀ xs, u ≠ .dK xs) → a ≠ D := fun {u} e n z => by
    rw [z, h] at e
    cases e
    exact n _ rfl
  refine ⟨?_, fun hw => by rw [upd_ne (ne (t.2 hw) fun _ z => by cases z)]; exact t.2 hw⟩
  rcases t.1 with (e | ⟨ob, e⟩) | e
  · exact .inl (.inl (by rw [upd_ne (ne e fun _ z => by cases z)]; exact e))
  · exact .inl (.inr ⟨ob, by rw [upd_ne (ne e fun _ z => by cases z)]; exact e⟩)
  · exact .inr e
theorem x_dis {keys : List (Option Expr)} {values : List Expr} {ps : List (Ev × Ev)} {pos : Pos} (h : PPs X pos keys values (ps.map fun p => (tE G W c p.1, tE G W c p.2))) (hall : keys.all (·.isSome) = true := by rfl) (hl : keys.length = values.length := by rfl) (h0 : keys ≠ [] := by simp)
    (h15 : keys.length ≤ 15 := by decide) : PE X (.Dict keys values pos) (tE G W c (eDis ps)) := by
  refine pe_imp (pe_disp h hall hl h0 h15) fun σ H Q h => ?_
  obtain ⟨ρ, S, env, R, re, h⟩ := h
  intro p hp
  have R' := R.same (upd_keeps (o := .dK []) hp)
  have E' : Ext ρ S H ρ S (upd H p (.dK [])) := Ext.same (upd_keeps hp)
  refine tPairs_of (P := fun _ _ _ _ => True) R' (re.ext E' R) ?_
  have h' : PE1 G W (VRel G Q) σ ρ S H ((dpF ps c env S).bind fun kvs S1 => match Nat.ble kvs.length 15 with
    | true => mkO (.dic false (mrgD [] kvs)) S1
    | false => .no) := h
  have n0 := NotAt.start R hp
  cases z : dpF ps c env S with
  | no => rw [z] at h'; exact h'.elim
  | ex k fs S1 =>
    rw [z] at h'
    exact fun ρ1 H1 d E1 R1 xd => h' ρ1 H1 d (E'.trans E1) R1 xd
  | ok kvs S1 =>
    rw [z] at h'
    intro ρ1 H1 E1 R1 xs rxs
    have h2 : PE1 G W (VRel G Q) σ ρ S H (match Nat.ble kvs.length 15 with
      | true => mkO (.dic false (mrgD [] kvs)) S1
      | false => .no) := h'
    cases hb : Nat.ble kvs.length 15 with
    | false => rw [hb] at h2; exact h2.elim
    | true =>
      rw [hb] at h2
      have l1 := E1.stays n0 upd_same
      refine ⟨l1, xs, rfl, by rw [rxs.len]; exact Nat.le_of_ble_eq_true hb, ?_⟩
      have h3 : PE1 G W (VRel G Q) σ ρ S H (mkO (.dic false (mrgD [] kvs)) S1) := h2
      unfold mkO at h3
      cases hx : S1.get S1.nx with
      | some o => rw [hx] at h3; exact h3.elim
      | none =>
        rw [hx] at h3
        have m := RK.mrg rxs (acc := []) (ys := []) rfl
        obtain ⟨Ea, Ra, ra⟩ := adoptG (o := .dic false (mrgD [] kvs)) (H2 := upd H1 p (.dK (mergeK [] xs))) (E'.trans E1) R1 (n0.ext E1 upd_same) hp (fun ob u z => by rw [l1] at z; cases z) hx (vx_dK l1) (fun a ne => upd_ne ne) upd_some
          fun vx => ⟨_, m.vx vx, by rw [if_neg Bool.false_ne_true]; exact upd_same⟩
        exact h3 _ _ Ea Ra _ ra
end
end Ev
set_option Elab.async false
set_option linter.all false
set_option maxRecDepth 100000
namespace Ev
open PySem PySem.Spec PyProof.Rows L2
/-! ### an exception that is kept after its clause -/
section
variable {X : Cx} {pins : List (Addr × Obj)} {σ : List (Option V)} {H : Hp} {s : Shared} {a : Addr}
theorem exAt_steady {cls : Value} {d : Option Addr} : ∀ h1 h2 : Heap, ExAt a cls d h1 → (∀ o, h1.get? a = some o → h2.get? a = some o) → ExAt a cls d h2 := fun h1 h2 ⟨oe, vs, e, z⟩ k => ⟨oe, vs, k _ e, z⟩
/-- what was laid since the entry and is tracked by nobody is tracked now -/
theorem inv_track {φ : Heap → Prop} (I : L2.Inv X pins σ H s) (hφ : φ s.heap) (he : ∃ o, s.heap.get? a = some o) (st : ∀ h1 h2 : Heap, φ h1 → (∀ o, h1.get? a = some o → h2.get? a = some o) → φ h2)
    (n0 : X.s_0.heap.get? a = none) (na : H a = none) (nL : a ≠ X.env.locals) (nC : ∀ x c, X.env.cells.lookup x = some c → c ≠ a) (nP : ∀ p ∈ X.pn ++ pins, p.1 ≠ a) : L2.Inv X pins σ (upd H a (.ext φ)) s where
  ok := I.ok
  os := I.os
  bare := I.bare
  base := ⟨I.base.keep, I.base.slot, fun b o e n x => by
    rw [upd_ne (fun z => by rw [z, n0] at e; cases e)]
    exact I.base.free b o e n x, I.base.there,
    fun b xs e => by
      have q := I.base.tups b xs e
      rw [upd_ne (ne_of_none q na)]; exact q,
    fun b o u e => by
      have q := I.base.frzs b o u e
      rw [upd_ne (ne_of_none q na)]; exact q,
    fun b ps e => by
      obtain ⟨m, q⟩ := I.base.tbls b ps e
      exact ⟨m, by rw [upd_ne (ne_of_none q na)]; exact q⟩⟩
  loc := I.loc
  cell := I.cell
  free := by rw [upd_ne (Ne.symm nL)]; exact I.free
  freeC := fun x c e => by rw [upd_ne (nC x c e)]; exact I.freeC x c e
  pin := fun p hp => by
    obtain ⟨e, n, r⟩ := I.pin p hp
    exact ⟨e, by rw [upd_ne (nP p hp)]; exact n, r⟩
  hok := fun b u e => by
    by_cases z : b = a
    · subst z
      rw [upd_same] at e
      cases e
      exact ⟨hφ, he, st⟩
    · rw [upd_ne z] at e
      exact (I.hok b u e).stay (fun _ _ _ q => q) (fun c q => by rw [upd_ne (ne_of_none q na)]; exact q) fun c xs q => by rw [upd_ne (ne_of_none q na)]; exact q
  len := I.len
end
/-- what the clause 'except x as n: y = n' wishes: i is n's slot, j is y's -/
def wKeep (K : PySem.W.Frag) (cx : Value) (i j : Nat) (Wout : WX') (D : Ends) : WX' := fun cls d σ H =>
  ∃ b, PySem.W.exmOne K cls cx = some b ∧ (b = true → ∀ a, H a = none → D.nx (((σ.set i (some (.ref a))).set j (some (.ref a))).set i none) (upd H a (.ext (ExAt a cls d)))) ∧ (b = false → Wout cls d σ H)
section
variable {X : Cx} {x n y : Str} {cx : Value} {i j : Nat} {body : List Stmt} {np yp ep sp pos' pos : Pos} {tb : WX' → TS} {Wout : WX'}
theorem ps_try_keep (hs : X.stack = X.env :: X.outer) (hf : X.env.frame = some X.env.locals) (hex : X.ex = []) (hN : X.N.Nodup) (hi : X.N[i]? = some n) (hj : X.N[j]? = some y) (hln : X.env.kindOf n = some .local) (hly : X.env.kindOf y = some .local) (hc : Names X x cx) (tk : Takes X Wout)
    (hb : ∀ (W : WX') (pn : List (Addr × Obj)) (xe : Value → Shared → Prop), Takes (X.tr pn xe) W → PassesOwn (model X.prog X.w) X.A X.env xe → PSs (X.tr pn xe) body (tb W))
    (hsu : ∀ (a : Addr) (oe : Obj) (pn : List (Addr × Obj)), PSs (X.suite a ((a, oe) :: pn)) [.Assign [.Name y yp] (.Name n ep) sp] (fun D σ H => σ[i]? = some (some (.ref a)) ∧ D.nx (σ.set j (some (.ref a))) H)) :
    PS X (.Try body [.ExceptHandler (some (.Name x np)) (some n) [.Assign [.Name y yp] (.Name n ep) sp] pos'] [] [] pos) (fun D σ H => tb (wKeep X.K cx i j Wout D) D σ H) := by
  refine ⟨fun pins s σ H D I h => ?_⟩
  have ok := I.ok
  have hfr : X.A.frames = some (X.env :: X.outer) := by rw [ok.frames, hs]
  have hloc : Loc X.env.scope n := .inl hln
  have back : ∀ {σ' H' s1}, L2.Inv (X.tr (X.pn ++ pins) (fun e s₁ => wpAny (model X.prog X.w) X.A (noteFrame e X.env) (fun _ s₂ => wpAny (model X.prog X.w) X.A (setFlight e none) (fun _ s₃ =>
      wpAny (model X.prog X.w) X.A (handleBy e X.env [.ExceptHandler (some (.Name x np)) (some n) [.Assign [.Name y yp] (.Name n ep) sp] pos']) (SP X pins D) X.xe s₃) X.xe s₂) X.xe s₁)) [] σ' H' s1 → L2.Inv X pins σ' H' s1 := fun J => J.ofTry ok
  refine wpAny_Try_except ?_
  refine wpAny_mono ((hb (wKeep X.K cx i j Wout D) (X.pn ++ pins) (fun e s₁ => wpAny (model X.prog X.w) X.A (noteFrame e X.env) (fun _ s₂ => wpAny (model X.prog X.w) X.A (setFlight e none) (fun _ s₃ =>
    wpAny (model X.prog X.w) X.A (handleBy e X.env [.ExceptHandler (some (.Name x np)) (some n) [.Assign [.Name y yp] (.Name n ep) sp] pos']) (SP X pins D) X.xe s₃) X.xe s₂) X.xe s₁) (fun u s' xx => ?_) PassesOwn.looking).run [] s σ H D (I.toTry _) h) (fun f s1 q => ?_) (fun e s1 he => he)
  · obtain ⟨a, B, sI, p2, σ', H', cls, d, rfl, J', nb, up, sky, na, os, ag, b, hb1, hyes, hno⟩ := xx
    have J : L2.Inv X pins σ' H' sI := J'.ofTry ok
    show wpAny (model X.prog X.w) X.A (noteFrame (.ref a) X.env) _ _ _
    refine Sky.land Zc.steady hfr hf (by rw [← hs]; exact sky) fun h3 fl3 up3 => ?_
    have J3 : L2.Inv X pins σ' H' { s' with heap := h3 } := J.landed nb fl3.1 (up.trans up3) os ag
    obtain ⟨oe3, vs3, he3, hz3, hd3⟩ := fl3.there
    have nfr : a ∉ frs (X.env :: X.outer) := fun hm => by
      obtain ⟨_, o', e', hnf⟩ := fl3.2.2.1.mem hm
      rw [he3] at e'
      cases e'
      exact hnf _ hd3
    have nL : a ≠ X.env.locals := fun z => nfr (List.mem_filterMap.mpr ⟨X.env, List.mem_cons_self, by rw [hf, z]⟩)
    have nF : a ∉ X.fs := fun hm => by
      obtain ⟨e, he, q⟩ := List.mem_filterMap.mp hm
      exact nfr (List.mem_filterMap.mpr ⟨e, List.mem_cons_of_mem _ he, q⟩)
    -- a is new
    have nI : sI.heap.get? a = none := by
      cases q : sI.heap.get? a with
      | none => rfl
      | some o =>
        have z := nb a o q (by rw [show (X.tr (X.pn ++ pins) _).stack = X.env :: X.outer from hs]; exact nfr)
        rw [fl3.2.1] at z; cases z
    have n0 : X.s_0.heap.get? a = none := by
      cases q : X.s_0.heap.get? a with
      | none => rfl
      | some o =>
        obtain ⟨o', z⟩ := J.base.there a o q (by rw [hex]; exact List.not_mem_nil)
        rw [nI] at z; cases z
    have nC : ∀ x c, X.env.cells.lookup x = some c → c ≠ a := fun x c e z => by
      obtain ⟨v, o, g, _⟩ := J.cell x c e
      rw [z, nI] at g; cases g
    have nP : ∀ p ∈ X.pn ++ pins, p.1 ≠ a := fun p hp z => by
      have g := (J.pin p hp).1
      rw [z, nI] at g; cases g
    have S3 := J3.suite he3 hd3 na nL nF
    refine wpAny_handleBy_cons (codeAny_handlers_test ?_) (by intro q; cases q)
    have LT : PySem.W.Looks (model X.prog X.w) h3 (typeOf (.ref a)) cls := fun A Q E s k q => wpAny_typeOf_ref (k _ _ he3) (by rw [hz3.1]; exact q)
    have LM := PySem.W.exm_one (M := model X.prog X.w) (J3.kIn) LT hb1
    have test : ∀ {Q : Value → Shared → Prop} {E : Value → Shared → Prop}, Q cx { s' with heap := h3 } → wpAny (model X.prog X.w) (X.A.mark (some (.ref a))) (eval (.Name x np) X.env) Q E { s' with heap := h3 } := fun {Q E} q => by
      obtain ⟨hg, hdbg, hm | ⟨hm, hv, hnn⟩⟩ := hc
      · exact ld_glob (X := X.suite a ((a, oe3) :: (X.pn ++ pins))) S3 hg hm q hdbg
      · exact ld_blt (X := X.suite a ((a, oe3) :: (X.pn ++ pins))) S3 hg hm hv q hnn hdbg
    refine test (LM.here ?_)
    cases b with
    | true =>
      refine codeAny_handlers_suite_as ?_
      refine HandSPX.lands_againZ fl3 fun h4 fl4 up4 => ?_
      have J4 : L2.Inv X pins σ' H' { s' with heap := h4 } := J.landed nb fl4.1 ((up.trans up3).trans up4) os ag
      obtain ⟨oe4, vs4, he4, hz4, hd4⟩ := fl4.there
      have S4 := J4.suite he4 hd4 na nL nF
      refine store_ok (X := X.suite a ((a, oe4) :: (X.pn ++ pins))) (v := .ref a) S4 hN hi hloc rfl (fun s5 S5 => ?_) (.inr hln)
      have hlen : i < σ'.length := by
        have e1 := J.len
        rw [e1]
        exact (List.getElem?_eq_some_iff.mp hi).1
      refine wpAny_mono ((hsu a oe4 (X.pn ++ pins)).run [] s5 _ H' { nx := fun σ6 H6 => σ6 = (σ'.set i (some (.ref a))).set j (some (.ref a)) ∧ H6 = H', rt := fun _ _ => False } S5 ⟨List.getElem?_set_self hlen, rfl, rfl⟩) (fun f s6 q6 => ?_) (fun _ _ z => False.elim z)
      cases f with
      | next =>
        obtain ⟨σ6, H6, S6, rfl, rfl⟩ := q6
        refine gone_ok (X := X.suite a ((a, oe4) :: (X.pn ++ pins))) S6 hN hi hln fun s7 S7 => ?_
        obtain ⟨g7, _⟩ := S7.pin (a, oe4) (List.mem_append.mpr (.inl List.mem_cons_self))
        exact ⟨_, _, inv_track (S7.unsuite ok) ⟨oe4, vs4, g7, hz4, hd4⟩ ⟨oe4, g7⟩ exAt_steady n0 na nL nC nP, hyes rfl a na⟩
      | brk =>
        obtain ⟨σ6, H6, _, z⟩ := q6
        exact z.elim
      | cont =>
        obtain ⟨σ6, H6, _, z⟩ := q6
        exact z.elim
      | ret u =>
        obtain ⟨v6, σ6, H6, _, _, z⟩ := q6
        exact z.elim
    | false =>
      show wpAny _ X.A (handleBy (.ref a) X.env []) _ _ _
      refine wpAny_handleBy_nil ?_
      obtain ⟨k1, k2, k3, oe, vs, T, oT, ts', he, hz, hd, h1, hr⟩ := id fl3
      unfold PySem.passOn
      refine wpAny_bind (wpAny_field he hd h1 ?_)
      rw [if_neg (show ¬ ((Value.ref T == Value.none) = true) from by simp)]
      have fin : wpAny (model X.prog X.w) X.A (setFlight (.ref a) X.env.frame) (fun _ s4 => wpAny (model X.prog X.w) X.A (throw (.ref a) : Sem Flow) (SP X pins D) X.xe s4) X.xe { s' with heap := h3 } := by
        rw [hf]
        refine HandSPX.setFlight_upZ fl3 fun h4 hh4 up4 => wpAny_throw (tk _ _ ?_)
        exact ⟨a, B, sI, pins, σ', H', cls, d, rfl, J, nb, (up.trans up3).trans up4, .inr (.inr (by rw [hs]; exact hh4)), na, os, ag, hno rfl⟩
      first
        | exact wpAny_bind (wpAny_pure (wpAny_bind fin))
        | exact wpAny_bind fin
  · cases f with
    | ret u =>
      obtain ⟨v, σ', H', J', r, z⟩ := q
      exact ⟨v, σ', H', back J', r, z⟩
    | next =>
      obtain ⟨σ', H', J', z⟩ := q
      exact wpAny_execs_nil ⟨σ', H', back J', z⟩
    | _ =>
      obtain ⟨σ', H', J', z⟩ := q
      exact ⟨σ', H', back J', z⟩
end
end Ev
set_option Elab.async false
set_option linter.all false
set_option maxRecDepth 100000
namespace Ev
open PySem PySem.Spec PyProof.Rows L2
/-! ### try: body / except C as n: y = n -/
def tabL : List (Nat × Bool) → Nat → Option Bool
  | [], _ => none
  | (a, b) :: r, k => match Nat.beq a k with
    | true => some b
    | false => tabL r k
/-- of a table: what holds for every entry -/
theorem tabL_all {P : Nat → Bool → Prop} : ∀ {l : List (Nat × Bool)} {k : Nat} {b : Bool}, (∀ p ∈ l, P p.1 p.2) → tabL l k = some b → P k b
  | [], _, _, _, h => by cases h
  | (a, x) :: r, k, b, q, h => by
    unfold tabL at h
    cases e : Nat.beq a k with
    | true =>
      rw [e] at h
      cases h
      have := Nat.eq_of_beq_eq_true e
      subst this
      exact q (a, _) List.mem_cons_self
    | false =>
      rw [e] at h
      exact tabL_all (fun p hp => q p (List.mem_cons_of_mem _ hp)) h
def sKeep (t : List (Nat × Bool)) (i j : Nat) (b : Sv) : Sv := fun c env S => match b c env S with
  | .ex k fs e1 S1 => match tabL t k with
    | some true => match S1.get S1.nx with
      | none => .nx (((e1.set i (some (.obj S1.nx))).set j (some (.obj S1.nx))).set i none) (S1.add (.exn k fs))
      | some _ => .no
    | some false => .ex k fs e1 S1
    | none => .no
  | r => r
section
variable {G : GT} {W : WX'} {c : Cal} {ρ ρ' : Po → Addr} {S S' : Sto} {H H' : Hp} {σ : List (Option V)} {X : Cx} {env : Slots}
theorem RE.unset {env : List (Option D)} {σ : List (Option V)} (h : RE G ρ S H env σ) {i : Nat} : RE G ρ S H (env.set i none) (σ.set i none) := by
  refine ⟨by simp [h.1], fun j e he => ?_⟩
  by_cases hj : i = j
  · subst hj
    by_cases hl : i < env.length
    · rw [List.getElem?_set_self hl] at he
      cases he
    · rw [List.getElem?_eq_none (by simpa using hl)] at he; cases he
  · rw [List.getElem?_set_ne hj] at he ⊢
    exact h.2 j e he
theorem x_keep {x n y : Str} {cx : Value} {i j : Nat} {body : List Stmt} {t : List (Nat × Bool)} {b : Sv} {np yp ep sp pos' pos : Pos} (hs : X.stack = X.env :: X.outer) (hf : X.env.frame = some X.env.locals) (hex : X.ex = []) (hN : X.N.Nodup) (hi : X.N[i]? = some n) (hj : X.N[j]? = some y)
    (hln : X.env.kindOf n = some .local) (hly : X.env.kindOf y = some .local) (hc : Names X x cx) (tk : Takes X W) (ht : ∀ p ∈ t, PySem.W.exmOne X.K (.ref (G.ca p.1)) cx = some p.2)
    (hb : ∀ (W : WX') (pn : List (Addr × Obj)) (xe : Value → Shared → Prop), Takes (X.tr pn xe) W → PassesOwn (model X.prog X.w) X.A X.env xe → PSs (X.tr pn xe) body (tS G W c b))
    (hv : Vis X.env.scope n) (hsw : swapsWith (.Name n ep) (some (.Name y yp)) sp.line X.env = pure false) (hff : X.fn y = true ∨ X.env.scope.names.lookup y = some .local) (hd : (n == ("__debug__" : Str)) = false := by decide) (hcd : (n == ("__classdict__" : Str)) = false := by decide) :
    PS X (.Try body [.ExceptHandler (some (.Name x np)) (some n) [.Assign [.Name y yp] (.Name n ep) sp] pos'] [] [] pos) (tS G W c (sKeep t i j b)) := by
  refine ps_imp (ps_try_keep (tb := fun W => tS G W c b) hs hf hex hN hi hj hln hly hc tk hb fun a oe pn => ?_) fun D σ H h => ?_
  · refine pss_imp (pss_cons (ps_asg (pe_var (X := X.suite a ((a, oe) :: pn)) hi hv hd hcd) (pg_name hN hj (.inl hly) hff) hsw) pss_nil) fun D σ H h => ?_
    exact ⟨.ref a, h.1, h.2⟩
  · obtain ⟨ρ, S, env, R, re, h⟩ := h
    refine ⟨ρ, S, env, R, re, ?_⟩
    unfold sKeep at h
    cases z : b c env S with
    | ex k fs e1 S1 =>
      rw [z] at h
      dsimp only at h
      intro σ1 ρ1 H1 d E1 R1 re1 xd
      cases q : tabL t k with
      | none => rw [q] at h; exact h.elim
      | some v =>
        have hm := tabL_all (P := fun k b => PySem.W.exmOne X.K (.ref (G.ca k)) cx = some b) ht q
        rw [q] at h
        cases v with
        | true =>
          dsimp only at h
          refine ⟨true, hm, fun _ a ha => ?_, fun z => by cases z⟩
          cases hn : S1.get S1.nx with
          | some o => rw [hn] at h; exact h.elim
          | none =>
            rw [hn] at h
            obtain ⟨E2, R2', r2⟩ := new_ob (o := .exn k fs) R1 hn ha (upd_keeps ha) fun E => ⟨d, xd.ext E R1, upd_same⟩
            exact h _ _ _ (E1.trans E2) R2' (((re1.ext E2 R1).set r2).set r2).unset
        | false =>
          exact ⟨false, hm, (fun z => by cases z), fun _ => h σ1 ρ1 H1 d E1 R1 re1 xd⟩
    | _ => rw [z] at h; exact h
/-! ### isinstance of such a one, by a class of one's own -/
def isExc (t : List (Nat × Bool)) (d : D) (S : Sto) : Rs D := match d with
  | .non => .ok (.bl false) S
  | .obj p => match S.get p with
    | some (.exn k []) => match tabL t k with
      | some b => .ok (.bl b) S
      | none => .no
    | _ => .no
  | _ => .no
def eIsE (t : List (Nat × Bool)) (v : Ev) : Ev := fun c env S => (v c env S).bind fun d S1 => isExc t d S1
def rIsT (K : PySem.W.Frag) : List V → Hp → VK → Prop := fun xs H Q => rIsi K xs H Q ∨ ∃ (a D C : Addr) (b : Bool), xs = [.ref a, .ref C] ∧ ExcC K D ∧ H a = some (.ext (ExAt a (.ref D) none)) ∧ PySem.W.kitOne K (.ref D) (.ref C) = some b ∧ Q (.bl b) H
theorem call_isT : CallR X (.builtin "isinstance") (rIsT X.K) := by
  intro pins s σ H xs us Q I r h
  rcases h with h | ⟨a, D, C, b, rfl, K, ha, e, q⟩
  · exact call_isi pins s σ H xs us Q I r h
  · obtain ⟨u1, u2, rfl, r1, r2⟩ := vals2 r
    cases (show u1 = Value.ref a from r1)
    cases (show u2 = Value.ref C from r2)
    obtain ⟨⟨oe, vs, hg, hz, hv⟩, _⟩ := (show ObjOk X.prog X.w H s.heap a (.ext _) from I.hok a _ ha)
    have J : PySem.W.InstAt s.heap a oe D none := by
      obtain ⟨oc, od, oda, osl⟩ := oe
      obtain ⟨h1, h2⟩ := hz
      dsimp only at h1 h2 hv
      subst h1 h2 hv
      exact ⟨hg, rfl, rfl, trivial⟩
    exact PySem.W.kia_one (PySem.W.handS_kitx_exc K.hg K.hk K.hs K.hd K.ha K.hn K.ht K.hm) I.kIn J e (fun z => nomatch z) fun tk => ⟨.bl b, H, I.tok tk, rfl, q⟩
theorem x_isE {e : Expr} {t : List (Nat × Bool)} {v : Ev} {x : Str} {C : Addr} {p pos xp : Pos} (hK : X.K = G.K) (hg : Gl X "isinstance") (hm : X.mg "isinstance" = none) (hgT : Gl X x) (hmT : X.mg x = some (.ref C)) (hnon : PySem.W.kitOne X.K (.type "NoneType") (.ref C) = some false)
    (ht : ∀ p ∈ t, ExcC X.K (G.ca p.1) ∧ PySem.W.kitOne X.K (.ref (G.ca p.1)) (.ref C) = some p.2) (he : PE X e (tE G W c v)) (hdb : (x == ("__debug__" : Str)) = false := by decide)
    (h1 : starEach [e, .Name x xp] X.env = (false, eval e X.env) :: starEach [.Name x xp] X.env := by rfl) (hpl : (backTo pos (starEach [.Name x xp] X.env)).any (·.1) = false := by rfl) (h2 : starEach [.Name x xp] X.env = (false, eval (.Name x xp) X.env) :: starEach [] X.env := by rfl) :
    PE X (.Call (.Name "isinstance" p) [e, .Name x xp] [] pos) (tE G W c (eIsE t v)) := by
  have hb : PE X (.Name x xp) (tC (.ref C)) := pe_glob hgT hmT rfl hdb
  refine pe_imp (pe_callB call_isT hg hm boot_isinstance (pa_cons he (pa_cons hb pa_nil h2) h1) (by decide) (by decide) h1 hpl) fun σ H Q h => ?_
  obtain ⟨ρ, S, env, R, re, h⟩ := h
  refine ⟨ρ, S, env, R, re, PE1.bind h fun ρ1 S1 H1 d E1 R1 h1 x rx => ?_⟩
  unfold isExc at h1
  split at h1
  · simp only [RV] at rx
    subst rx
    exact .inl ⟨.non, .ref C, .type "NoneType", .ref C, false, rfl, .own C, .base .non, hnon, fine R1 h1 (by simp only [RV])⟩
  · rename_i p
    simp only [RV] at rx
    obtain ⟨rfl, _⟩ := rx
    split at h1
    · rename_i k hp
      split at h1
      · rename_i b hb
        obtain ⟨hE, hk⟩ := tabL_all (P := fun k b => ExcC X.K (G.ca k) ∧ PySem.W.kitOne X.K (.ref (G.ca k)) (.ref C) = some b) ht hb
        obtain ⟨d, xd, ha⟩ := R1.ob p _ hp
        rcases xd with ⟨_, rfl⟩ | ⟨dx, fs', rfl, q, r, n⟩
        · exact .inr ⟨_, _, C, b, rfl, hE, ha, hk, fine R1 h1 (by simp only [RV])⟩
        · exact absurd rfl n
      · exact h1.elim
    · exact h1.elim
  · exact h1.elim
end
end Ev
set_option Elab.async false
set_option linter.all false
set_option maxRecDepth 100000
namespace Ev
open PySem PySem.Spec PyProof.Rows L2
/-! ### short forms -/
section
variable {G : GT} {W : WX'} {c : Cal} {X : Cx}
theorem v_ (i : Nat) {x : Str} {pos : Pos} (hN : X.N[i]? = some x := by rfl) (hv : Vis X.env.scope x := by first | exact Or.inl rfl | exact Or.inr (Or.inl rfl) | exact Or.inr (Or.inr rfl)) (hd : (x == ("__debug__" : Str)) = false := by decide)
    (hcd : (x == ("__classdict__" : Str)) = false := by decide) : PE X (.Name x pos) (tE G W c (eVar i)) := x_var i hN hv hd hcd
theorem s_ {s : Str} {l : List Nat} {j pos} (h : s = toS l := by decide +kernel) : PE X (.Constant (.str s) j pos) (tE G W c (eC (.str l))) := x_str h
section
variable {a b : Expr} {va vb : Ev} {pos : Pos}
theorem lt_ (ha : PE X a (tE G W c va)) (hb : PE X b (tE G W c vb)) (hm : behindInMarks .Lt b = false := by with_unfolding_all rfl) : PE X (.Compare a [.Lt] [b] pos) (tE G W c (eBin dLt va vb)) := x_cmp op_lt' dLt_ok ha hb hm
theorem le_ (ha : PE X a (tE G W c va)) (hb : PE X b (tE G W c vb)) (hm : behindInMarks .LtE b = false := by with_unfolding_all rfl) : PE X (.Compare a [.LtE] [b] pos) (tE G W c (eBin dLe va vb)) := x_cmp op_le dLe_ok ha hb hm
theorem gt_ (ha : PE X a (tE G W c va)) (hb : PE X b (tE G W c vb)) (hm : behindInMarks .Gt b = false := by with_unfolding_all rfl) : PE X (.Compare a [.Gt] [b] pos) (tE G W c (eBin dGt va vb)) := x_cmp op_gt dGt_ok ha hb hm
theorem ge_ (ha : PE X a (tE G W c va)) (hb : PE X b (tE G W c vb)) (hm : behindInMarks .GtE b = false := by with_unfolding_all rfl) : PE X (.Compare a [.GtE] [b] pos) (tE G W c (eBin dGe va vb)) := x_cmp op_ge dGe_ok ha hb hm
theorem eq_ (hK : X.K = G.K) (hu : X.A.units + 64 < cLine) (ha : PE X a (tE G W c va)) (hb : PE X b (tE G W c vb)) (hm : behindInMarks .Eq b = false := by with_unfolding_all rfl) : PE X (.Compare a [.Eq] [b] pos) (tE G W c (eBin dEq va vb)) :=
  x_cmp (op_eq' hu) (by rw [hK]; exact dEq_ok) ha hb hm
theorem ne_ (hK : X.K = G.K) (hu : X.A.units + 64 < cLine) (ha : PE X a (tE G W c va)) (hb : PE X b (tE G W c vb)) (hm : behindInMarks .NotEq b = false := by with_unfolding_all rfl) : PE X (.Compare a [.NotEq] [b] pos) (tE G W c (eBin dNe va vb)) :=
  x_cmp (op_ne' hu) (by rw [hK]; exact dNe_ok) ha hb hm
theorem is_ (ha : PE X a (tE G W c va)) (hb : PE X b (tE G W c vb)) (hm : behindInMarks .Is b = false := by with_unfolding_all rfl) : PE X (.Compare a [.Is] [b] pos) (tE G W c (eBin dIs va vb)) := x_cmp op_is' dIs_ok ha hb hm
theorem isn_ (ha : PE X a (tE G W c va)) (hb : PE X b (tE G W c vb)) (hm : behindInMarks .IsNot b = false := by with_unfolding_all rfl) : PE X (.Compare a [.IsNot] [b] pos) (tE G W c (eBin dIsNot va vb)) := x_cmp op_isnot' dIsNot_ok ha hb hm
theorem in_ (hK : X.K = G.K) (hu : X.A.units + 65 < cLine) (ha : PE X a (tE G W c va)) (hb : PE X b (tE G W c vb)) (hm : behindInMarks .In b = false := by with_unfolding_all rfl) : PE X (.Compare a [.In] [b] pos) (tE G W c (eBin dIn va vb)) :=
  x_cmp (op_in' hu) (by rw [hK]; exact dIn_ok) ha hb hm
theorem nin_ (hK : X.K = G.K) (hu : X.A.units + 65 < cLine) (ha : PE X a (tE G W c va)) (hb : PE X b (tE G W c vb)) (hm : behindInMarks .NotIn b = false := by with_unfolding_all rfl) : PE X (.Compare a [.NotIn] [b] pos) (tE G W c (eBin dNotIn va vb)) :=
  x_cmp (op_notin' hu) (by rw [hK]; exact dNotIn_ok) ha hb hm
theorem ix_ (hK : X.K = G.K) (hu : X.A.units + 65 < cLine) (ha : PE X a (tE G W c va)) (hb : PE X b (tE G W c vb)) (hp : PlainIx b := by intro _ _; rfl) : PE X (.Subscript a b pos) (tE G W c (eBin dSub' va vb)) :=
  x_ix (ix_sub' (by omega)) (by rw [hK]; exact dSub'_ok) ha hb hp
theorem chle_ {d : Expr} {vd : Ev} (ha : PE X a (tE G W c va)) (hb : PE X b (tE G W c vb)) (hd : PE X d (tE G W c vd)) (hm : lastMarks [.LtE, .LtE] [b, d] = false := by with_unfolding_all rfl) : PE X (.Compare a [.LtE, .LtE] [b, d] pos) (tE G W c (eChain dLe dLe va vb vd)) :=
  x_chain op_le op_le dLe_ok dLe_ok ha hb hd hm
theorem tchle_ {d : Expr} {vd : Ev} (ha : PE X a (tE G W c va)) (hb : PE X b (tE G W c vb)) (hd : PE X d (tE G W c vd)) (hm : lastMarks [.LtE, .LtE] [b, d] = false := by with_unfolding_all rfl) : PT X (.Compare a [.LtE, .LtE] [b, d] pos) (tT G W c (tOf (eChain dLe dLe va vb vd))) :=
  x_tchain op_le op_le dLe_ok dLe_ok ha hb hd hm
end
theorem pps_n {pos : Pos} : PPs X pos [] [] (([] : List (Ev × Ev)).map fun p => (tE G W c p.1, tE G W c p.2)) := pps_nil
theorem pps_c {pos : Pos} {k v : Expr} {ks : List (Option Expr)} {vs : List Expr} {a b : Ev} {ps : List (Ev × Ev)} (hk : PE X k (tE G W c a)) (hv : PE X v (tE G W c b)) (hr : PPs X pos ks vs (ps.map fun p => (tE G W c p.1, tE G W c p.2))) :
    PPs X pos (some k :: ks) (v :: vs) (((a, b) :: ps).map fun p => (tE G W c p.1, tE G W c p.2)) := pps_cons hk hv hr
end
end Ev
set_option Elab.async false
set_option linter.all false
set_option maxRecDepth 100000
namespace Ev
open PySem PySem.Spec PyProof.Rows L2
/-! ### <= of pairs of numbers -/
def dLeT : Op2 := fun x y S => match x, y with
  | .tup _ [.int a, .int b], .tup _ [.int c, .int d] => .ok (.bl (if a = c then (if b = d then true else decide (b ≤ d)) else decide (a ≤ c))) S
  | _, _ => .no
section
variable {G : GT} {W : WX'} {c : Cal} {X : Cx}
theorem dLeT_ok : Serves G W (rLeT G.K) dLeT := fun σ ρ S H d e x y Q R rx ry h => by
  unfold dLeT at h
  split at h
  · rename_i w1 a b w2 c d
    simp only [RV, RVs] at rx ry
    obtain ⟨p, vs, rfl, t1, v1, r1, rfl, rfl, v2, r2, rfl, rfl, rfl⟩ := rx
    obtain ⟨q, us, rfl, t2, u1, s1, rfl, rfl, u2, s2, rfl, rfl, rfl⟩ := ry
    refine ⟨p, q, [a, b], [c, d], rfl, rfl, t1.1, t2.1, ?_⟩
    refine h ρ H Ext.refl R _ ?_
    simp only [RV]
    congr 1
    show (if decide (a = c) = true then (if decide (b = d) = true then decide (2 ≤ 2) else decide (b ≤ d)) else decide (a ≤ c)) = _
    simp only [decide_eq_true_eq]
    rfl
  · exact h.elim
theorem leT_ {a b : Expr} {va vb : Ev} {pos : Pos} (hK : X.K = G.K) (hu : X.A.units + 64 < cLine) (ha : PE X a (tE G W c va)) (hb : PE X b (tE G W c vb)) (hm : behindInMarks .LtE b = false := by with_unfolding_all rfl) : PE X (.Compare a [.LtE] [b] pos) (tE G W c (eBin dLeT va vb)) :=
  x_cmp (op_leT (by omega)) (by rw [hK]; exact dLeT_ok) ha hb hm
theorem tleT_ {a b : Expr} {va vb : Ev} {pos : Pos} (hK : X.K = G.K) (hu : X.A.units + 64 < cLine) (ha : PE X a (tE G W c va)) (hb : PE X b (tE G W c vb)) (hm : behindInMarks .LtE b = false := by with_unfolding_all rfl) : PT X (.Compare a [.LtE] [b] pos) (tT G W c (tOf (eBin dLeT va vb))) :=
  x_tcmp (op_leT (by omega)) (by rw [hK]; exact dLeT_ok) ha hb hm
/-! a text, so many times -/
def dMulS : Op2 := fun x y S => match x, y with
  | .str l, .int (.ofNat k) => match Nat.blt 0 k && Nat.ble (l.length * k) big && Nat.ble k big with
    | true => .ok (.str (List.replicate k l).flatten) S
    | false => .no
  | _, _ => .no
theorem rep_cps (a : Array Nat) : ∀ (n : Nat) (b : Array Nat), (List.replicate n a).foldl (· ++ ·) b = b ++ (List.replicate n a.toList).flatten.toArray
  | 0, b => by simp
  | n + 1, b => by
    rw [List.replicate_succ, List.foldl_cons, rep_cps a n, List.replicate_succ, List.flatten_cons]
    obtain ⟨a⟩ := a
    simp
theorem txt_mul (l : List Nat) {k : Nat} (hk : 0 < k) : Txt.mul (toS l) (k : Int) = toS (List.replicate k l).flatten := by
  unfold Txt.mul
  rw [if_neg (by omega)]
  split
  · rename_i h
    rw [Bool.or_eq_true] at h
    rcases h with h | h
    · have : k = 1 := by have := eq_of_beq h; omega
      subst this
      simp
    · have : l.length = 0 := by have := eq_of_beq h; rw [toS_len] at this; exact this
      have : l = [] := List.length_eq_zero_iff.mp this
      subst this
      simp
  · show (⟨_⟩ : Str) = ⟨_⟩
    congr 1
    rw [Int.toNat_natCast, rep_cps]
    simp [toS]
def rMulS : R2 := fun x y H Q => ∃ (z : Str) (k : Int), x = .str z ∧ y = .int k ∧ MulOk z k ∧ Q (.str (Txt.mul z k)) H
theorem op_mulS {X : Cx} : OpR X (binaryOp .Mult) rMulS := by
  intro pins s σ H x y v u Q I rx ry h
  obtain ⟨z, k, rfl, rfl, hok, q⟩ := h
  obtain ⟨t, rfl⟩ := rx
  obtain ⟨t2, rfl⟩ := ry
  exact SB.mul hok fun t' j => ⟨.str (Txt.mul z k), H, I.tok _, ⟨t', rfl⟩, q⟩
theorem dMulS_ok : Serves G W rMulS dMulS := fun σ ρ S H d e x y Q R rx ry h => by
  unfold dMulS at h
  split at h
  · rename_i l k
    split at h
    · rename_i hc
      simp only [Bool.and_eq_true] at hc
      obtain ⟨⟨h1, h2⟩, h3⟩ := hc
      have h1 := Nat.blt_eq.mp h1
      have h2 := Nat.le_of_ble_eq_true h2
      have h3 := Nat.le_of_ble_eq_true h3
      have hb : big = 16777216 := rfl
      simp only [RV] at rx ry
      refine ⟨toS l, (k : Int), rx, ry, ⟨?_, fun _ _ => ?_, fun _ _ => ?_⟩, ?_⟩
      · rw [Bool.or_eq_false_iff]
        exact ⟨decide_eq_false (by omega), decide_eq_false (by omega)⟩
      · rw [toS_len]
        intro z
        have e : (l.length : Int) * (k : Int) ≤ 16777216 := by
          have := Int.ofNat_le.mpr h2
          rw [hb] at this
          simpa using this
        have := Int.le_ediv_of_mul_le (a := (l.length : Int)) (b := 2 ^ 63 - 1) (c := (k : Int)) (by omega) (by omega)
        omega
      · rw [toS_len, Int.toNat_natCast]
        exact decide_eq_false (by show ¬ _ > sizeLine; rw [← big_eq]; omega)
      · rw [txt_mul l h1]
        exact h ρ H Ext.refl R _ (by unfold RV; rfl)
    · exact h.elim
  · exact h.elim
theorem mulS_ {a b : Expr} {va vb : Ev} {pos : Pos} (ha : PE X a (tE G W c va)) (hb : PE X b (tE G W c vb)) : PE X (.BinOp a .Mult b pos) (tE G W c (eBin dMulS va vb)) := x_op op_mulS dMulS_ok ha hb
end
end Ev
set_option Elab.async false
set_option linter.all false
set_option maxRecDepth 100000
namespace Ev
open PySem PySem.Spec PyProof.Rows L2
/-! ### facts of the head as truths -/
def vOf (G : GT) : D → Option V
  | .non => some .non
  | .bl b => some (.bl b)
  | .int i => some (.int i)
  | .str x => some (.str (toS x))
  | .fnr j => some (.ref (G.fa j))
  | _ => none
theorem vOf_ok {G : GT} {d : D} {v : V} (h : vOf G d = some v) : ∀ ρ S H, RV G ρ S H d v := fun ρ S H => by
  cases d <;> first
    | (cases h; simp only [RV]; done)
    | (cases h; simp only [RV]; rfl)
    | cases h
def entB (G : GT) : List DictEntry → List (List Nat × D) → Bool
  | [], [] => true
  | e :: r, (k, d) :: q => (match e.key with
    | .str x _ => decide (x = toS k)
    | _ => false) && ((match vOf G d with
    | some v => He.relB v e.val
    | none => false) && entB G r q)
  | _, _ => false
def tabB (G : GT) (a : Addr) (kvs : List (List Nat × D)) : Bool := match G.K.lookup a with
  | some ⟨_, _, .dict es _, _⟩ => entB G es.toList kvs
  | _ => false
def excB (K : PySem.W.Frag) (C : Addr) : Bool :=
  He.eqO (PySem.W.findIn K (.ref C) "__getattribute__") (some (some (.builtin "BaseException.__getattribute__"))) && (He.eqO (PySem.W.findIn K (.ref C) "__getattr__") (some none) && (decide (PySem.W.subIn K (.ref C) (.type "BaseException") = some true) &&
  (PySem.W.hasDictIn K C && (He.eqO (PySem.W.findIn K (.ref C) "__class__") (some (some (.builtin "object.__class__"))) && (He.eqO (PySem.W.specialIn K (.builtin "object.__class__") "__get__") (some (some (.builtin "getset_descriptor.__get__"))) &&
  (decide (PySem.W.takesIn K (.builtin "object.__class__") = some true) && decide (PySem.W.mroIn K C (.type "object") = some true)))))))
theorem excB_ok {K : PySem.W.Frag} {C : Addr} (h : excB K C = true) : ExcC K C := by
  unfold excB at h
  obtain ⟨h1, h⟩ := He.ba h
  obtain ⟨h2, h⟩ := He.ba h
  obtain ⟨h3, h⟩ := He.ba h
  obtain ⟨h4, h⟩ := He.ba h
  obtain ⟨h5, h⟩ := He.ba h
  obtain ⟨h6, h⟩ := He.ba h
  obtain ⟨h7, h8⟩ := He.ba h
  exact ⟨He.eqO_ok h1, He.eqO_ok h2, of_decide_eq_true h3, h4, He.eqO_ok h5, He.eqO_ok h6, of_decide_eq_true h7, of_decide_eq_true h8⟩
theorem toS_beq {a b : List Nat} : (toS a == toS b) = leq a b := by
  cases h : leq a b with
  | true =>
    have e : a = b := leq_iff.mp h
    rw [e]; exact beq_self_eq_true _
  | false =>
    refine Bool.eq_false_iff.mpr fun z => ?_
    have e := toS_inj (eq_of_beq z)
    rw [leq_iff.mpr e] at h
    cases h
theorem ent_ok {G : GT} {l : List Nat} : ∀ {es : List DictEntry} {kvs : List (List Nat × D)}, entB G es kvs = true → es.any (·.refKey) = false ∧ match tabV kvs l with
    | none => es.find? (·.key.isStr (toS l)) = none
    | some d => ∃ e v, es.find? (·.key.isStr (toS l)) = some e ∧ RelV v e.val ∧ ∀ ρ S H, RV G ρ S H d v
  | [], [], _ => ⟨rfl, rfl⟩
  | [], _ :: _, h => by cases h
  | _ :: _, [], h => by cases h
  | e :: r, (k, d) :: q, h => by
    obtain ⟨h1, h2⟩ := He.ba h
    obtain ⟨h2, h3⟩ := He.ba h2
    obtain ⟨i1, i2⟩ := ent_ok (l := l) h3
    obtain ⟨eh, ek, ev⟩ := e
    cases ek with
    | str x t =>
      have e1 : x = toS k := of_decide_eq_true h1
      subst e1
      refine ⟨by rw [List.any_cons, i1]; rfl, ?_⟩
      cases z : leq k l with
      | true =>
        have zz : ((Value.str (toS k) t).isStr (toS l)) = true := by show (toS k == toS l) = true; rw [toS_beq]; exact z
        unfold tabV
        rw [z]
        cases y : vOf G d with
        | none => rw [y] at h2; cases h2
        | some v =>
          rw [y] at h2
          exact ⟨_, v, by rw [List.find?_cons_of_pos (by exact zz)], He.relB_ok h2, vOf_ok y⟩
      | false =>
        have zz : ¬ ((Value.str (toS k) t).isStr (toS l)) = true := by show ¬ (toS k == toS l) = true; rw [toS_beq, z]; exact Bool.false_ne_true
        unfold tabV
        rw [z]
        rw [List.find?_cons_of_neg (by exact zz)]
        exact i2
    | _ => cases h1
theorem tab_ok {G : GT} {a : Addr} {kvs : List (List Nat × D)} (h : tabB G a kvs = true) : TabIs G a kvs := fun l => by
  unfold tabB at h
  split at h
  · rename_i es n sl hk
    obtain ⟨h1, h2⟩ := ent_ok (l := l) h
    cases z : tabV kvs l with
    | none =>
      rw [z] at h2
      show PySem.W.nsIn G.K a (toS l) = some none
      unfold PySem.W.nsIn
      rw [hk]
      dsimp only
      rw [h2]
      simp [h1]
    | some d =>
      rw [z] at h2
      obtain ⟨e, v, h3, h4, h5⟩ := h2
      refine ⟨e.val, v, ?_, h4, h5⟩
      unfold PySem.W.nsIn
      rw [hk]
      dsimp only
      rw [h3]
  · cases h
end Ev
set_option Elab.async false
set_option linter.all false
set_option maxRecDepth 100000
/-! The end of a law row whose def promises as FnG: the call comes from callerA, where no repr is under way. -/
namespace Ev
open PySem PySem.Spec PyProof.Rows L2
/-- the script's abstract heap: the script alone, and that only if the written part does not hold it -/
def scriptH (K : PySem.W.Frag) (a : Addr) (o : Obj) (vs : List V) : Hp := fun b =>
  if b = a ∧ (K.lookup a).isNone = true then some (.frz o (.lst vs)) else none
section
variable {P : Program} {w : World} {K : PySem.W.Frag} {mg mb : Str → Option Value} {k : Nat} {fa a : Addr} {fd : FuncData} {x : Str} {sp : Sp} {s1 : Shared} {us : List Value} {ns : List Int}
theorem scriptH_some {o : Obj} {vs : List V} {b : Addr} {u : HO} (h : scriptH K a o vs b = some u) : b = a ∧ K.lookup a = none ∧ u = .frz o (.lst vs) := by
  unfold scriptH at h
  split at h
  · rename_i z
    refine ⟨z.1, ?_, (Option.some.inj h).symm⟩
    have := z.2
    simpa using this
  · cases h
/-- the script read alone -/
theorem scriptH_sq {us : List Value} {vs : List V} (rv : Vals vs us) (hl : vs.length ≤ sizeLine) (KX : K.In s1.heap) (ha : s1.heap.get? a = some { cls := .type "list", data := .seq us.toArray }) :
    SqR K (scriptH K a { cls := .type "list", data := .seq us.toArray } vs) a vs := by
  cases q : K.lookup a with
  | none => exact .inl ⟨_, by unfold scriptH; rw [if_pos ⟨rfl, by rw [q]; rfl⟩]⟩
  | some o =>
    have e := KX a o q
    rw [ha] at e
    cases e
    exact .inr ⟨_, us.toArray, _, q, rfl, rfl, rfl, by rw [List.size_toArray, ← rv.length]; exact hl, by simpa using rv⟩
theorem law_callG (KX : K.In s1.heap) (n1 : s1.heap.Ns mainGlobals mg) (n2 : s1.heap.Ns builtinsNs mb) (n3 : ∀ y : Str, y ≠ "__name__" → mb y = bootBuiltins y) (n4 : s1.heap.NoLimit) (n5 : s1.gens = #[])
    (ha : s1.heap.get? a = some { cls := .type "list", data := .seq us.toArray }) (hi : IntsAre us ns) (hl : ns.length ≤ sizeLine) (hr : Room k callerA)
    (F : ∀ base : Heap, K.In base → base.Ns mainGlobals mg → FnG P w K mg base k fa fd [x] sp) (hbind : ∀ (s : Shared) (u : Value), BindsTo s fd ⟨[u], []⟩ [(x, u)])
    (hsp : ∀ H : Hp, SqR K H a (ns.map V.int) → sp [.ref a] H (fun v _ => v = .bl true) fun _ _ _ => False) :
    codeAny (model P w) callerA (.call (.ref fa) ⟨[.ref a], []⟩) (fun r s' => r = .ok (.ret (.bool true)) ∧ OldK s1.heap s'.heap ∧ s'.os = s1.os ∧ AllBare s'.gens) s1 := by
  have rv := vals_ints hi
  have rl : (ns.map V.int).length ≤ sizeLine := by rw [List.length_map]; exact hl
  let o0 : Obj := { cls := .type "list", data := .seq us.toArray }
  let H : Hp := scriptH K a o0 (ns.map V.int)
  have sq : SqR K H a (ns.map V.int) := scriptH_sq rv rl KX ha
  have hok : HOk P w H s1.heap := fun b u hb => by
    obtain ⟨rfl, _, rfl⟩ := scriptH_some hb
    exact ⟨ha, rl, us, _, rv, ha⟩
  -- dicts are not the script
  have dic : ∀ (b : Addr) (o : Obj) (es : Array DictEntry) (m : Nat), s1.heap.get? b = some o → o.data = .dict es m → H b = none := fun b o es m hb hd => by
    cases q : H b with
    | none => rfl
    | some u =>
      obtain ⟨rfl, _, _⟩ := scriptH_some q
      rw [ha] at hb
      cases hb
      exact absurd hd (fun z => by cases z)
  have nsT : ∀ {b : Addr} {m : Str → Option Value}, s1.heap.Ns b m → (hidT s1.heap H).Ns b m := fun {b m} z => by
    obtain ⟨o, es, ep, e, d, r⟩ := z
    exact ⟨o, es, ep, hidT_get e (dic b o es ep e d), d, r⟩
  have inT : K.In (hidT s1.heap H) := fun b o e => by
    refine hidT_get (KX b o e) ?_
    cases q : H b with
    | none => rfl
    | some u =>
      obtain ⟨rfl, z, _⟩ := scriptH_some q
      rw [z] at e
      cases e
  obtain ⟨mc, c1, c2⟩ := n4
  have m0 : Mod K mg (hidT s1.heap H) := ⟨inT, nsT n1, ⟨mb, nsT n2, n3⟩, ⟨mc, nsT c1, c2⟩⟩
  have none_in : ∀ b : Addr, ¬ b ∈ ([] : List Addr) := fun b => List.not_mem_nil
  have e0 : Env0 P w K mg (hidT s1.heap H) callerA [] s1 H := ⟨rfl, m0, fun b o e => of_hidT e, by rw [hidT_size]; exact Nat.le_refl _, trivial, fun b hb => (none_in b hb).elim, hok, .of_eq n5⟩
  have run := (F _ inT (nsT n1)).go callerA [] s1 H ⟨[.ref a], []⟩ [.ref a] [.ref a] _ _ hr rfl e0 (hbind s1 (.ref a)) (.cons rfl .nil) (hsp H sq)
  refine codeAny_mono run fun r s' h => ?_
  cases r with
  | error e =>
    obtain ⟨_, _, _, _, _, _, _, _, _, _, _, _, z⟩ := h
    exact z.elim
  | ok fl =>
    cases fl with
    | ret u =>
      obtain ⟨v, H', q1, q2, q3, q4, q5, q6⟩ := h
      have q6 : v = .bl true := q6
      subst q6
      have q5 : u = Value.bool true := q5
      subst q5
      refine ⟨rfl, .of_keep fun b o e => ?_, q1, q2⟩
      cases q : H b with
      | none => exact q3.keep b o e q (none_in b) (by simp)
      | some z =>
        obtain ⟨rfl, z1, z2⟩ := scriptH_some q
        subst z2
        have z3 := q3.frzs b o0 _ q
        obtain ⟨g, _⟩ := q4 b _ z3
        rw [ha] at e
        cases e
        exact g
    | next => exact h.elim
    | brk => exact h.elim
    | cont => exact h.elim
end
/-- the store in which the script stands, read alone -/
def S0 (ns : List Int) : Sto := Sto.emp.add (.rol (ns.map .int))
theorem rvs_ints {G : GT} {ρ : Po → Addr} {S : Sto} {H : Hp} : ∀ ns : List Int, RVs G ρ S H (ns.map D.int) (ns.map V.int)
  | [] => RVs.nil
  | n :: ns => RVs.cons (by simp only [RV]) (rvs_ints ns)
theorem S0_get (ns : List Int) : (S0 ns).get .H = some (.rol (ns.map .int)) := Tr.gss _ _ _
theorem S0_some {ns : List Int} {p : Po} {o : Ob} (h : (S0 ns).get p = some o) : p = .H ∧ o = .rol (ns.map .int) := by
  by_cases e : p = .H
  · subst e
    rw [S0_get] at h
    exact ⟨rfl, (Option.some.inj h).symm⟩
  · have : (S0 ns).get p = Sto.emp.get p := Tr.gso _ _ _ _ e
    rw [this, Sto.emp_get] at h
    cases h
/-- the law's promise, from what the evaluator says -/
theorem sp_law {G : GT} {c : Cal} {j : Nat} {H : Hp} {a : Addr} {ns : List Int} (hs : SqR G.K H a (ns.map V.int)) (h : ∃ S', c j [.obj .H] (S0 ns) = .ok (.bl true) S') :
    spC G c j 1 [.ref a] H (fun v _ => v = .bl true) fun _ _ _ => False := by
  obtain ⟨S', e⟩ := h
  refine ⟨fun _ => a, S0 ns, [.obj .H], ⟨fun p o hp => ?_, fun p q o o' hp hq hf => ?_⟩, RVs.one (by simp only [RV]; exact ⟨trivial, _, S0_get ns⟩), rfl, ?_⟩
  · obtain ⟨rfl, rfl⟩ := S0_some hp
    exact ⟨_, hs, rvs_ints ns⟩
  · obtain ⟨rfl, rfl⟩ := S0_some hp
    exact absurd hf (by simp [Ob.isRol])
  · rw [e]
    intro ρ' H' _ _ x rx
    simpa only [RV] using rx
/-- a law's row over a head by facts; the script's ints have at most 2 ^ 20 bits -/
theorem walk_ofG {l : PySem.W.OpenLaw} {n k : Nat} {q : Program} {loose : List Str} {XP : (Str → Option Value) → Heap → Prop} {YP : World → Heap → Prop} {d : DefRec} {x : Str} {GK : PySem.W.Frag → GT} {c : Cal} {j : Nat}
    (hn : l.most = some n) (hn2 : n ≤ sizeLine) (hdf : d.params.defaults = []) (hr : Room k callerA) (hG : ∀ K, (GK K).K = K)
    (F : ∀ (w : World) (mg : Str → Option Value) (fa : Addr) (h : Heap), YP w h → h.Ns mainGlobals mg → mg d.name = some (.ref fa) →
      ∃ (K : PySem.W.Frag) (fd : FuncData), K.In h ∧ (∀ (s : Shared) (u : Value), BindsTo s fd ⟨[u], []⟩ [(x, u)]) ∧ ∀ base : Heap, K.In base → base.Ns mainGlobals mg → FnG l.prog w K mg base k fa fd [x] (spC (GK K) c j 1))
    (law : ∀ ns : List Int, ns.length ≤ n → (∀ z ∈ ns, Builtin.Int.intBits z ≤ 1048576) → ∃ S', c j [.obj .H] (S0 ns) = .ok (.bl true) S') :
    PySem.W.WalkO q loose XP YP l.row.toRowW d [] (fun f vs => PySem.call f vs) := by
  refine Att.attach_callB hn hdf fun w t0 t1 mg mb fa o pm cd doc a us ns G Y _ _ _ hmg hobj hints hlen hbits hg => ?_
  obtain ⟨K, fd, KX, hb, hF⟩ := F w mg fa _ Y G.T.g hmg
  exact law_callG KX G.T.g G.T.b G.T.builtins G.T.nolimit hg hobj hints (Nat.le_trans hlen hn2) hr hF hb fun H hs => sp_law (by rw [hG]; exact hs) (law ns hlen hbits)
end Ev
set_option Elab.async false
set_option linter.all false
set_option maxRecDepth 100000
namespace Ev
/-! ### the plain side: places by number, later stores -/
def Po.ix : Po → Nat
  | .H => 1
  | .O p => 2 * p.ix
  | .I p => 2 * p.ix + 1
theorem Po.ix_pos : ∀ p : Po, 0 < p.ix
  | .H => Nat.one_pos
  | .O p => by have := p.ix_pos; unfold Po.ix; omega
  | .I p => by unfold Po.ix; omega
theorem Po.ix_succ : ∀ p : Po, p.succ.ix = p.ix + 1
  | .H => rfl
  | .O p => rfl
  | .I p => by show 2 * p.succ.ix = 2 * p.ix + 1 + 1; rw [p.ix_succ]; omega
theorem Po.ix_inj : ∀ {p q : Po}, p.ix = q.ix → p = q
  | .H, .H, _ => rfl
  | .O p, .O q, h => by rw [Po.ix_inj (p := p) (q := q) (by have h : 2 * p.ix = 2 * q.ix := h; omega)]
  | .I p, .I q, h => by rw [Po.ix_inj (p := p) (q := q) (by have h : 2 * p.ix + 1 = 2 * q.ix + 1 := h; omega)]
  | .H, .O q, h => by have h : 1 = 2 * q.ix := h; omega
  | .H, .I q, h => by have h : 1 = 2 * q.ix + 1 := h; have := q.ix_pos; omega
  | .O p, .H, h => by have h : 2 * p.ix = 1 := h; omega
  | .I p, .H, h => by have h : 2 * p.ix + 1 = 1 := h; have := p.ix_pos; omega
  | .O p, .I q, h => by have h : 2 * p.ix = 2 * q.ix + 1 := h; omega
  | .I p, .O q, h => by have h : 2 * p.ix + 1 = 2 * q.ix := h; omega
def Wf (S : Sto) : Prop := ∀ p o, S.get p = some o → p.ix < S.nx.ix
/-- all that stood stands as it was -/
structure Le (S S' : Sto) : Prop where
  w : Wf S
  wf : Wf S'
  nx : S.nx.ix ≤ S'.nx.ix
  fr : ∀ p, p.ix < S.nx.ix → S'.get p = S.get p
section
variable {S S1 S2 S3 : Sto} {p : Po} {o : Ob}
theorem Le.refl (w : Wf S) : Le S S := ⟨w, w, Nat.le_refl _, fun _ _ => rfl⟩
theorem Le.trans (a : Le S S1) (b : Le S1 S2) : Le S S2 := ⟨a.w, b.wf, Nat.le_trans a.nx b.nx, fun p h => (b.fr p (Nat.lt_of_lt_of_le h a.nx)).trans (a.fr p h)⟩
theorem Le.get (a : Le S S1) (h : S.get p = some o) : S1.get p = some o := (a.fr p (a.w p o h)).trans h
theorem Wf.nx_none (w : Wf S) : S.get S.nx = none := by
  cases h : S.get S.nx with
  | none => rfl
  | some o => exact absurd (w _ _ h) (Nat.lt_irrefl _)
theorem add_get : (S.add o).get S.nx = some o := Tr.gss o S.nx S.tr
theorem add_ne (h : p ≠ S.nx) : (S.add o).get p = S.get p := Tr.gso o S.nx p S.tr h
theorem add_nx : (S.add o).nx.ix = S.nx.ix + 1 := Po.ix_succ _
theorem Wf.add (w : Wf S) : Wf (S.add o) := fun p u h => by
  rw [add_nx]
  by_cases e : p = S.nx
  · rw [e]; omega
  · rw [add_ne e] at h
    exact Nat.lt_succ_of_lt (w p u h)
theorem le_add (w : Wf S) : Le S (S.add o) := ⟨w, w.add, by rw [add_nx]; omega, fun p h => add_ne fun e => by rw [e] at h; omega⟩
theorem mkO_eq (w : Wf S) : mkO o S = .ok (.obj S.nx) (S.add o) := by
  unfold mkO
  rw [w.nx_none]
theorem Wf.put (w : Wf S) (h : S.get p = some o) {u : Ob} : Wf (S.put p u) := fun q v e => by
  show q.ix < S.nx.ix
  by_cases z : q = p
  · rw [z]; exact w p o h
  · rw [Sto.put_ne z] at e
    exact w q v e
/-- what is put at a place that is new since S leaves S as it was -/
theorem Le.put (a : Le S S1) (h : S1.get p = some o) (n : S.nx.ix ≤ p.ix) {u : Ob} : Le S (S1.put p u) := ⟨a.w, a.wf.put h, a.nx, fun q hq => by
  rw [Sto.put_ne (fun e => by rw [e] at hq; omega)]
  exact a.fr q hq⟩
end
/-! ### judgements -/
section
variable (c : Cal) (env : Slots) (S : Sto)
/-- the expression has this value, wherever it is asked from S on, and leaves all that stood -/
def Pv (e : Ev) (d : D) : Prop := ∀ S1, Le S S1 → ∃ S2, e c env S1 = .ok d S2 ∧ Le S1 S2
/-- it gives a new list -/
def Pl (e : Ev) (xs : List D) : Prop := ∀ S1, Le S S1 → ∃ p S2, e c env S1 = .ok (.obj p) S2 ∧ Le S1 S2 ∧ S2.get p = some (.lst 0 xs) ∧ S1.nx.ix ≤ p.ix
/-- it raises -/
def Pe (e : Ev) (k : Nat) (fs : List (Nat × D)) : Prop := ∀ S1, Le S S1 → ∃ S2, e c env S1 = .ex k fs S2 ∧ Le S1 S2
def Pt (t : Tv) (b : Bool) : Prop := ∀ S1, Le S S1 → ∃ S2, t c env S1 = .ok b S2 ∧ Le S1 S2
def Pa (a : Av) (ds : List D) : Prop := ∀ S1, Le S S1 → ∃ S2, a c env S1 = .ok ds S2 ∧ Le S1 S2
def Po' (o : Ov) (i : Option Int) : Prop := ∀ S1, Le S S1 → ∃ S2, o c env S1 = .ok i S2 ∧ Le S1 S2
/-- what is walked: these -/
def Zs (z : Iz) (S : Sto) (xs : List D) : Prop := (∀ S', Le S S' → ∀ i : Nat, z.at i S' = some xs[i]?) ∧ xs.length + 1 ≤ z.fuel S
def Pi (it : Iv) (xs : List D) : Prop := ∀ S1, Le S S1 → ∃ z S2, it c env S1 = .ok z S2 ∧ Le S1 S2 ∧ Zs z S2 xs
inductive Out where
  | nx (env : Slots) | rt (d : D) | ex (k : Nat) (fs : List (Nat × D)) (env : Slots)
def Out.to : Out → Sto → Rt
  | .nx e, S => .nx e S
  | .rt d, S => .rt d S
  | .ex k fs e, S => .ex k fs e S
def Ps (s : Sv) (r : Out) : Prop := ∀ S1, Le S S1 → ∃ S2, s c env S1 = r.to S2 ∧ Le S1 S2
/-- the list that a statement gives back -/
def Psl (s : Sv) (xs : List D) : Prop := ∀ S1, Le S S1 → ∃ p S2, s c env S1 = .rt (.obj p) S2 ∧ Le S1 S2 ∧ S2.get p = some (.lst 0 xs) ∧ S1.nx.ix ≤ p.ix
end
/-- a def's call -/
def Fv (c : Cal) (j : Nat) (ds : List D) (S : Sto) (d : D) : Prop := ∀ S1, Le S S1 → ∃ S2, c j ds S1 = .ok d S2 ∧ Le S1 S2
def Fl (c : Cal) (j : Nat) (ds : List D) (S : Sto) (xs : List D) : Prop := ∀ S1, Le S S1 → ∃ p S2, c j ds S1 = .ok (.obj p) S2 ∧ Le S1 S2 ∧ S2.get p = some (.lst 0 xs) ∧ S1.nx.ix ≤ p.ix
def Fe (c : Cal) (j : Nat) (ds : List D) (S : Sto) (k : Nat) (fs : List (Nat × D)) : Prop := ∀ S1, Le S S1 → ∃ S2, c j ds S1 = .ex k fs S2 ∧ Le S1 S2
section
variable {c : Cal} {env : Slots} {S S1 S2 : Sto}
theorem Pv.le {e : Ev} {d : D} (h : Pv c env S e d) (l : Le S S1) : Pv c env S1 e d := fun S2 k => h S2 (l.trans k)
theorem Pl.le {e : Ev} {d : List D} (h : Pl c env S e d) (l : Le S S1) : Pl c env S1 e d := fun S2 k => h S2 (l.trans k)
theorem Pt.le {e : Tv} {d : Bool} (h : Pt c env S e d) (l : Le S S1) : Pt c env S1 e d := fun S2 k => h S2 (l.trans k)
theorem Pa.le {e : Av} {d : List D} (h : Pa c env S e d) (l : Le S S1) : Pa c env S1 e d := fun S2 k => h S2 (l.trans k)
theorem Pi.le {e : Iv} {d : List D} (h : Pi c env S e d) (l : Le S S1) : Pi c env S1 e d := fun S2 k => h S2 (l.trans k)
theorem Ps.le {e : Sv} {d : Out} (h : Ps c env S e d) (l : Le S S1) : Ps c env S1 e d := fun S2 k => h S2 (l.trans k)
theorem Fv.le {j : Nat} {ds : List D} {d : D} (h : Fv c j ds S d) (l : Le S S1) : Fv c j ds S1 d := fun S2 k => h S2 (l.trans k)
theorem Zs.le {z : Iz} {xs : List D} (h : Zs z S xs) (l : Le S S1) (hf : z.fuel S1 = z.fuel S) : Zs z S1 xs := ⟨fun S2 k => h.1 S2 (l.trans k), by rw [hf]; exact h.2⟩
/-! names, constants -/
theorem pv_var {i : Nat} {d : D} (h : env[i]? = some (some d)) : Pv c env S (eVar i) d := fun S1 l => ⟨S1, by unfold eVar; rw [h], .refl l.wf⟩
theorem pv_c {d : D} : Pv c env S (eC d) d := fun S1 l => ⟨S1, rfl, .refl l.wf⟩
theorem pv_bin {op : Op2} {a b : Ev} {x y d : D} (ha : Pv c env S a x) (hb : Pv c env S b y) (ho : ∀ S1, op x y S1 = .ok d S1) : Pv c env S (eBin op a b) d := fun S1 l => by
  obtain ⟨S2, e2, l2⟩ := ha S1 l
  obtain ⟨S3, e3, l3⟩ := hb S2 (l.trans l2)
  exact ⟨S3, by unfold eBin; rw [e2]; show Rs.bind (b c env S2) _ = _; rw [e3]; exact ho S3, l2.trans l3⟩
/-- an operation that may look at the store -/
theorem pv_binS {op : Op2} {a b : Ev} {x y d : D} (ha : Pv c env S a x) (hb : Pv c env S b y) (ho : ∀ S1, Le S S1 → op x y S1 = .ok d S1) : Pv c env S (eBin op a b) d := fun S1 l => by
  obtain ⟨S2, e2, l2⟩ := ha S1 l
  obtain ⟨S3, e3, l3⟩ := hb S2 (l.trans l2)
  exact ⟨S3, by unfold eBin; rw [e2]; show Rs.bind (b c env S2) _ = _; rw [e3]; exact ho S3 (l.trans (l2.trans l3)), l2.trans l3⟩
theorem pv_and {a b : Ev} {x : Bool} {y : Bool} (ha : Pv c env S a (.bl x)) (hb : x = true → Pv c env S b (.bl y)) : Pv c env S (eAnd a b) (.bl (x && y)) := fun S1 l => by
  obtain ⟨S2, e2, l2⟩ := ha S1 l
  unfold eAnd
  rw [e2]
  cases x with
  | false => exact ⟨S2, rfl, l2⟩
  | true =>
    obtain ⟨S3, e3, l3⟩ := hb rfl S2 (l.trans l2)
    exact ⟨S3, e3, l2.trans l3⟩
theorem pv_or {a b : Ev} {x : Bool} {y : Bool} (ha : Pv c env S a (.bl x)) (hb : x = false → Pv c env S b (.bl y)) : Pv c env S (eOr a b) (.bl (x || y)) := fun S1 l => by
  obtain ⟨S2, e2, l2⟩ := ha S1 l
  unfold eOr
  rw [e2]
  cases x with
  | true => exact ⟨S2, rfl, l2⟩
  | false =>
    obtain ⟨S3, e3, l3⟩ := hb rfl S2 (l.trans l2)
    exact ⟨S3, e3, l2.trans l3⟩
theorem pv_not {a : Ev} {x : Bool} (ha : Pv c env S a (.bl x)) : Pv c env S (eNot a) (.bl (!x)) := fun S1 l => by
  obtain ⟨S2, e2, l2⟩ := ha S1 l
  exact ⟨S2, by unfold eNot; rw [e2]; rfl, l2⟩
theorem pv_neg {a : Ev} {i : Int} (ha : Pv c env S a (.int i)) : Pv c env S (eNeg a) (.int (-i)) := fun S1 l => by
  obtain ⟨S2, e2, l2⟩ := ha S1 l
  exact ⟨S2, by unfold eNeg; rw [e2]; rfl, l2⟩
theorem pv_if {t : Tv} {a b : Ev} {k : Bool} {d : D} (ht : Pt c env S t k) (ha : k = true → Pv c env S a d) (hb : k = false → Pv c env S b d) : Pv c env S (eIf t a b) d := fun S1 l => by
  obtain ⟨S2, e2, l2⟩ := ht S1 l
  unfold eIf
  rw [e2]
  cases k with
  | true =>
    obtain ⟨S3, e3, l3⟩ := ha rfl S2 (l.trans l2)
    exact ⟨S3, e3, l2.trans l3⟩
  | false =>
    obtain ⟨S3, e3, l3⟩ := hb rfl S2 (l.trans l2)
    exact ⟨S3, e3, l2.trans l3⟩
/-! tests -/
theorem pt_of {a : Ev} {x : Bool} (ha : Pv c env S a (.bl x)) : Pt c env S (tOf a) x := fun S1 l => by
  obtain ⟨S2, e2, l2⟩ := ha S1 l
  exact ⟨S2, by unfold tOf; rw [e2]; rfl, l2⟩
theorem pt_and {a b : Tv} {x : Bool} {y : Bool} (ha : Pt c env S a x) (hb : x = true → Pt c env S b y) : Pt c env S (tAnd' a b) (x && y) := fun S1 l => by
  obtain ⟨S2, e2, l2⟩ := ha S1 l
  unfold tAnd'
  rw [e2]
  cases x with
  | false => exact ⟨S2, rfl, l2⟩
  | true =>
    obtain ⟨S3, e3, l3⟩ := hb rfl S2 (l.trans l2)
    exact ⟨S3, e3, l2.trans l3⟩
theorem pt_or {a b : Tv} {x : Bool} {y : Bool} (ha : Pt c env S a x) (hb : x = false → Pt c env S b y) : Pt c env S (tOr' a b) (x || y) := fun S1 l => by
  obtain ⟨S2, e2, l2⟩ := ha S1 l
  unfold tOr'
  rw [e2]
  cases x with
  | true => exact ⟨S2, rfl, l2⟩
  | false =>
    obtain ⟨S3, e3, l3⟩ := hb rfl S2 (l.trans l2)
    exact ⟨S3, e3, l2.trans l3⟩
theorem pt_not {a : Tv} {x : Bool} (ha : Pt c env S a x) : Pt c env S (tNot' a) (!x) := fun S1 l => by
  obtain ⟨S2, e2, l2⟩ := ha S1 l
  exact ⟨S2, by unfold tNot'; rw [e2]; rfl, l2⟩
theorem pt_yes : Pt c env S tYesV true := fun S1 l => ⟨S1, rfl, .refl l.wf⟩
/-! argument lists, tuples, lists -/
theorem pa_n : Pa c env S aNil [] := fun S1 l => ⟨S1, rfl, .refl l.wf⟩
theorem pa_c {a : Ev} {r : Av} {d : D} {ds : List D} (ha : Pv c env S a d) (hr : Pa c env S r ds) : Pa c env S (aCons a r) (d :: ds) := fun S1 l => by
  obtain ⟨S2, e2, l2⟩ := ha S1 l
  obtain ⟨S3, e3, l3⟩ := hr S2 (l.trans l2)
  exact ⟨S3, by unfold aCons; rw [e2]; show Rs.bind (r c env S2) _ = _; rw [e3]; rfl, l2.trans l3⟩
theorem pv_tup {a : Av} {ds : List D} (ha : Pa c env S a ds) (hl : ds.length ≤ big) : Pv c env S (eTup a) (.tup true ds) := fun S1 l => by
  obtain ⟨S2, e2, l2⟩ := ha S1 l
  refine ⟨S2, ?_, l2⟩
  unfold eTup
  rw [e2]
  show (match Nat.ble ds.length big with | true => Rs.ok (D.tup true ds) S2 | false => .no) = _
  rw [Nat.ble_eq_true_of_le hl]
theorem pl_lst {a : Av} {ds : List D} (ha : Pa c env S a ds) (hl : ds.length ≤ big) : Pl c env S (eLst a) ds := fun S1 l => by
  obtain ⟨S2, e2, l2⟩ := ha S1 l
  refine ⟨S2.nx, S2.add (.lst 0 ds), ?_, l2.trans (le_add l2.wf), add_get, l2.nx⟩
  unfold eLst
  rw [e2]
  show (match Nat.ble ds.length big with | true => mkO (.lst 0 ds) S2 | false => .no) = _
  rw [Nat.ble_eq_true_of_le hl]
  exact mkO_eq l2.wf
theorem pv_b {f : List D → Sto → Rs D} {a : Av} {ds : List D} {d : D} (ha : Pa c env S a ds) (hf : ∀ S1, f ds S1 = .ok d S1) : Pv c env S (eB f a) d := fun S1 l => by
  obtain ⟨S2, e2, l2⟩ := ha S1 l
  exact ⟨S2, by unfold eB; rw [e2]; exact hf S2, l2⟩
theorem pv_bS {f : List D → Sto → Rs D} {a : Av} {ds : List D} {d : D} (ha : Pa c env S a ds) (hf : ∀ S1, Le S S1 → f ds S1 = .ok d S1) : Pv c env S (eB f a) d := fun S1 l => by
  obtain ⟨S2, e2, l2⟩ := ha S1 l
  exact ⟨S2, by unfold eB; rw [e2]; exact hf S2 (l.trans l2), l2⟩
/-- a built-in of a new list -/
theorem pv_bl {f : List D → Sto → Rs D} {a : Ev} {xs : List D} {d : D} (ha : Pl c env S a xs) (hf : ∀ S1 p, S1.get p = some (.lst 0 xs) → f [.obj p] S1 = .ok d S1) : Pv c env S (eB f (aCons a aNil)) d := fun S1 l => by
  obtain ⟨p, S2, e2, l2, g2, _⟩ := ha S1 l
  exact ⟨S2, by unfold eB aCons; rw [e2]; exact hf S2 p g2, l2⟩
theorem pv_all {a : Ev} {xs : List D} {bs : List Bool} (ha : Pl c env S a xs) (h : mapO truthD xs = some bs) : Pv c env S (eB bAll (aCons a aNil)) (.bl (bs.all id)) :=
  pv_bl ha fun S1 p g => by simp [bAll, lstD, seqD, g, h]
theorem pv_tupl {a : Ev} {xs : List D} (ha : Pl c env S a xs) : Pv c env S (eB bTup (aCons a aNil)) (.tup true xs) :=
  pv_bl ha fun S1 p g => by simp [bTup, seqD, g]
theorem pv_lenl {a : Ev} {xs : List D} (ha : Pl c env S a xs) : Pv c env S (eB bLen (aCons a aNil)) (.int (.ofNat xs.length)) :=
  pv_bl ha fun S1 p g => by simp [bLen, seqD, g]
/-- a method of a value -/
theorem pv_bm {q : D → Sto → Bool} {f : MOp} {o : Ev} {a : Av} {x d : D} {ds : List D} (ho : Pv c env S o x) (ha : Pa c env S a ds) (hq : ∀ S1, q x S1 = true) (hf : ∀ S1, f x ds S1 = .ok d S1) : Pv c env S (eBM q f o a) d := fun S1 l => by
  obtain ⟨S2, e2, l2⟩ := ho S1 l
  obtain ⟨S3, e3, l3⟩ := ha S2 (l.trans l2)
  refine ⟨S3, ?_, l2.trans l3⟩
  unfold eBM
  rw [e2]
  show (match q x S2 with | true => (a c env S2).bind fun ds S2 => f x ds S2 | false => .no) = _
  rw [hq, e3]
  exact hf S3
theorem pv_join {o : Ev} {a : Ev} {x : List Nat} {xs : List D} {ls : List (List Nat)} (ho : Pv c env S o (.str x)) (ha : Pl c env S a xs) (hs : mapO strD xs = some ls) (hb : (ls.map (·.length)).sum + ls.length * x.length ≤ big) :
    Pv c env S (eBM isStrD mJoin o (aCons a aNil)) (.str (TL.joinL x ls)) := fun S1 l => by
  obtain ⟨S2, e2, l2⟩ := ho S1 l
  obtain ⟨p, S3, e3, l3, g3, _⟩ := ha S2 (l.trans l2)
  refine ⟨S3, ?_, l2.trans l3⟩
  unfold eBM aCons
  rw [e2]
  show (Rs.bind ((a c env S2).bind _) _) = _
  rw [e3]
  show mJoin (.str x) [.obj p] S3 = _
  have g : seqD (.obj p) S3 = some xs := by unfold seqD; dsimp only; rw [g3]
  unfold mJoin
  dsimp only
  rw [g]
  dsimp only
  rw [hs]
  dsimp only
  rw [Nat.ble_eq_true_of_le hb]
theorem pl_split {o : Ev} {a : Ev} {x b : List Nat} (ho : Pv c env S o (.str x)) (ha : Pv c env S a (.str b)) (hb : b.isEmpty = false) (hb2 : b.all (· < 256) = true) (hl : x.length + 2 ≤ big) :
    Pl c env S (eBM isStrD mSplit o (aCons a aNil)) ((TL.spl b 0 [] x).map .str) := fun S1 l => by
  obtain ⟨S2, e2, l2⟩ := ho S1 l
  obtain ⟨S3, e3, l3⟩ := ha S2 (l.trans l2)
  refine ⟨S3.nx, S3.add (.lst 0 ((TL.spl b 0 [] x).map .str)), ?_, l2.trans (l3.trans (le_add l3.wf)), add_get, Nat.le_trans l2.nx l3.nx⟩
  unfold eBM aCons
  rw [e2]
  show (Rs.bind ((a c env S2).bind _) _) = _
  rw [e3]
  have h2 : Nat.ble (x.length + 2) big = true := Nat.ble_eq_true_of_le hl
  show (match !b.isEmpty && b.all (· < 256) && Nat.ble (x.length + 2) big with
    | true => mkO (.lst 0 ((TL.spl b 0 [] x).map .str)) S3
    | false => .no) = _
  rw [hb, hb2, h2]
  exact mkO_eq l3.wf
/-! calls -/
theorem pv_call {j : Nat} {dfl ds : List D} {a : Av} {d : D} (ha : Pa c env S a ds) (hf : Fv c j (ds ++ dfl) S d) : Pv c env S (eCall j dfl a) d := fun S1 l => by
  obtain ⟨S2, e2, l2⟩ := ha S1 l
  obtain ⟨S3, e3, l3⟩ := hf S2 (l.trans l2)
  exact ⟨S3, by unfold eCall; rw [e2]; exact e3, l2.trans l3⟩
theorem pl_call {j : Nat} {dfl ds xs : List D} {a : Av} (ha : Pa c env S a ds) (hf : Fl c j (ds ++ dfl) S xs) : Pl c env S (eCall j dfl a) xs := fun S1 l => by
  obtain ⟨S2, e2, l2⟩ := ha S1 l
  obtain ⟨p, S3, e3, l3, g3, n3⟩ := hf S2 (l.trans l2)
  exact ⟨p, S3, by unfold eCall; rw [e2]; exact e3, l2.trans l3, g3, Nat.le_trans l2.nx n3⟩
theorem pe_call {j : Nat} {dfl ds : List D} {a : Av} {k : Nat} {fs : List (Nat × D)} (ha : Pa c env S a ds) (hf : Fe c j (ds ++ dfl) S k fs) : Pe c env S (eCall j dfl a) k fs := fun S1 l => by
  obtain ⟨S2, e2, l2⟩ := ha S1 l
  obtain ⟨S3, e3, l3⟩ := hf S2 (l.trans l2)
  exact ⟨S3, by unfold eCall; rw [e2]; exact e3, l2.trans l3⟩
theorem pv_callK {j : Nat} {m : List D → List D → List D} {ds es : List D} {a ka : Av} {d : D} (ha : Pa c env S a ds) (hk : Pa c env S ka es) (hf : Fv c j (m ds es) S d) : Pv c env S (eCallK j m a ka) d := fun S1 l => by
  obtain ⟨S2, e2, l2⟩ := ha S1 l
  obtain ⟨S3, e3, l3⟩ := hk S2 (l.trans l2)
  obtain ⟨S4, e4, l4⟩ := hf S3 (l.trans (l2.trans l3))
  exact ⟨S4, by unfold eCallK; rw [e2]; show Rs.bind (ka c env S2) _ = _; rw [e3]; exact e4, l2.trans (l3.trans l4)⟩
/-! parts -/
theorem po_no : Po' c env S oNo none := fun S1 l => ⟨S1, rfl, .refl l.wf⟩
theorem po_part {a : Ev} {i : Int} (ha : Pv c env S a (.int i)) : Po' c env S (oPart a) (some i) := fun S1 l => by
  obtain ⟨S2, e2, l2⟩ := ha S1 l
  exact ⟨S2, by unfold oPart; rw [e2]; rfl, l2⟩
theorem pv_sl {a : Ev} {lo hi : Ov} {x d : D} {l h : Option Int} (ha : Pv c env S a x) (hl : Po' c env S lo l) (hh : Po' c env S hi h) (hd : ∀ S1, dCut x l h S1 = .ok d S1) : Pv c env S (eSl a lo hi) d := fun S1 k => by
  obtain ⟨S2, e2, l2⟩ := ha S1 k
  obtain ⟨S3, e3, l3⟩ := hl S2 (k.trans l2)
  obtain ⟨S4, e4, l4⟩ := hh S3 (k.trans (l2.trans l3))
  exact ⟨S4, by unfold eSl; rw [e2]; show Rs.bind (lo c env S2) _ = _; rw [e3]; show Rs.bind (hi c env S3) _ = _; rw [e4]; exact hd S4, l2.trans (l3.trans l4)⟩
/-- a part of a list -/
theorem pl_sl {a : Ev} {lo hi : Ov} {p : Po} {xs : List D} {l h : Option Int} (ha : Pv c env S a (.obj p)) (hl : Po' c env S lo l) (hh : Po' c env S hi h) (hx : seqD (.obj p) S = some xs) (hs : ∀ S1, Le S S1 → seqD (.obj p) S1 = some xs) : Pl c env S (eSl a lo hi) (cutD xs l h) := fun S1 k => by
  obtain ⟨S2, e2, l2⟩ := ha S1 k
  obtain ⟨S3, e3, l3⟩ := hl S2 (k.trans l2)
  obtain ⟨S4, e4, l4⟩ := hh S3 (k.trans (l2.trans l3))
  refine ⟨S4.nx, S4.add (.lst 0 (cutD xs l h)), ?_, l2.trans (l3.trans (l4.trans (le_add l4.wf))), add_get, Nat.le_trans l2.nx (Nat.le_trans l3.nx l4.nx)⟩
  unfold eSl; rw [e2]; show Rs.bind (lo c env S2) _ = _; rw [e3]; show Rs.bind (hi c env S3) _ = _; rw [e4]
  show dCut (.obj p) l h S4 = _
  unfold dCut
  rw [hs S4 (k.trans (l2.trans (l3.trans l4)))]
  exact mkO_eq l4.wf
/-! f-strings, chains, isinstance -/
theorem pv_chain {o o' : Op2} {a b d : Ev} {x y z : D} {k k' : Bool} (ha : Pv c env S a x) (hb : Pv c env S b y) (ho : ∀ S1, o x y S1 = .ok (.bl k) S1) (hd : k = true → Pv c env S d z) (ho' : k = true → ∀ S1, o' y z S1 = .ok (.bl k') S1) : Pv c env S (eChain o o' a b d) (.bl (k && k')) := fun S1 l => by
  obtain ⟨S2, e2, l2⟩ := ha S1 l
  obtain ⟨S3, e3, l3⟩ := hb S2 (l.trans l2)
  unfold eChain
  rw [e2]
  show ∃ S9, Rs.bind (b c env S2) _ = _ ∧ _
  rw [e3]
  show ∃ S9, Rs.bind (o x y S3) _ = _ ∧ _
  rw [ho]
  cases k with
  | false => exact ⟨S3, rfl, l2.trans l3⟩
  | true =>
    obtain ⟨S4, e4, l4⟩ := hd rfl S3 (l.trans (l2.trans l3))
    exact ⟨S4, by show Rs.bind (d c env S3) _ = _; rw [e4]; exact ho' rfl S4, l2.trans (l3.trans l4)⟩
theorem pv_is {T t : Tyn} {a : Ev} {x : D} (ha : Pv c env S a x) (ht : ∀ S1, Le S S1 → tyn x S1 = some t) : Pv c env S (eIs T a) (.bl (isk T t)) := fun S1 l => by
  obtain ⟨S2, e2, l2⟩ := ha S1 l
  exact ⟨S2, by unfold eIs; rw [e2]; show isInst T x S2 = _; unfold isInst; rw [ht S2 (l.trans l2)], l2⟩
theorem pv_fmtS {a : Ev} {x : List Nat} (ha : Pv c env S a (.str x)) (hl : x.length ≤ big) : Pv c env S (eFmt a) (.str x) := fun S1 l => by
  obtain ⟨S2, e2, l2⟩ := ha S1 l
  refine ⟨S2, ?_, l2⟩
  unfold eFmt; rw [e2]
  show (match Nat.ble x.length big with | true => Rs.ok (D.str x) S2 | false => .no) = _
  rw [Nat.ble_eq_true_of_le hl]
theorem pv_fmtI {a : Ev} {i : Int} (ha : Pv c env S a (.int i)) (hl : shortI i = true) : Pv c env S (eFmt a) (.str (intL i)) := fun S1 l => by
  obtain ⟨S2, e2, l2⟩ := ha S1 l
  refine ⟨S2, ?_, l2⟩
  unfold eFmt; rw [e2]
  show (match shortI i with | true => Rs.ok (D.str (intL i)) S2 | false => .no) = _
  rw [hl]
/-- the parts of an f-string -/
def Pj (c : Cal) (env : Slots) (S : Sto) : List Ev → List (List Nat) → Prop
  | [], [] => True
  | v :: vs, x :: xs => Pv c env S v (.str x) ∧ Pj c env S vs xs
  | _, _ => False
theorem Pj.le : ∀ {vs : List Ev} {xs : List (List Nat)}, Pj c env S vs xs → Le S S1 → Pj c env S1 vs xs
  | [], [], _, _ => trivial
  | _ :: _, _ :: _, ⟨a, b⟩, l => ⟨a.le l, Pj.le b l⟩
  | [], _ :: _, h, _ => h.elim
  | _ :: _, [], h, _ => h.elim
theorem pv_jF : ∀ {vs : List Ev} {xs : List (List Nat)} {acc : List Nat}, Pj c env S vs xs → acc.length + xs.flatten.length ≤ big → Pv c env S (jF vs acc) (.str (acc ++ xs.flatten))
  | [], [], acc, _, _ => fun S1 l => ⟨S1, by simp [jF], .refl l.wf⟩
  | [], _ :: _, _, h, _ => h.elim
  | _ :: _, [], _, h, _ => h.elim
  | v :: vs, x :: xs, acc, ⟨hv, hr⟩, hl => fun S1 l => by
    rw [List.flatten_cons, List.length_append] at hl
    obtain ⟨S2, e2, l2⟩ := hv S1 l
    obtain ⟨S3, e3, l3⟩ := pv_jF (acc := acc ++ x) hr (by rw [List.length_append]; omega) S2 (l.trans l2)
    refine ⟨S3, ?_, l2.trans l3⟩
    rw [List.flatten_cons, ← List.append_assoc, ← e3]
    unfold jF
    rw [e2]
    show (match Nat.ble (acc.length + x.length) big with | true => jF vs (acc ++ x) c env S2 | false => .no) = _
    rw [Nat.ble_eq_true_of_le (by omega)]
    cases vs <;> rfl
theorem pv_joined {vs : List Ev} {xs : List (List Nat)} (h : Pj c env S vs xs) (hl : xs.flatten.length ≤ big) : Pv c env S (eJoined vs) (.str xs.flatten) := by
  have := pv_jF (acc := []) h (by simpa using hl)
  simpa [eJoined] using this
end
end Ev
set_option Elab.async false
set_option linter.all false
set_option maxRecDepth 100000
namespace Ev
section
variable {c : Cal} {env env1 : Slots} {S S0 S1 S2 : Sto}
/-! statements -/
theorem ps_nil : Ps c env S sNil (.nx env) := fun S1 l => ⟨S1, rfl, .refl l.wf⟩
theorem ps_seq {a b : Sv} {r : Out} (ha : Ps c env S a (.nx env1)) (hb : Ps c env1 S b r) : Ps c env S (sSeq a b) r := fun S1 l => by
  obtain ⟨S2, e2, l2⟩ := ha S1 l
  obtain ⟨S3, e3, l3⟩ := hb S2 (l.trans l2)
  exact ⟨S3, by unfold sSeq; rw [e2]; exact e3, l2.trans l3⟩
theorem ps_rt {a b : Sv} {d : D} (ha : Ps c env S a (.rt d)) : Ps c env S (sSeq a b) (.rt d) := fun S1 l => by
  obtain ⟨S2, e2, l2⟩ := ha S1 l
  exact ⟨S2, by unfold sSeq; rw [e2]; rfl, l2⟩
theorem ps_ex {a b : Sv} {k : Nat} {fs : List (Nat × D)} (ha : Ps c env S a (.ex k fs env1)) : Ps c env S (sSeq a b) (.ex k fs env1) := fun S1 l => by
  obtain ⟨S2, e2, l2⟩ := ha S1 l
  exact ⟨S2, by unfold sSeq; rw [e2]; rfl, l2⟩
theorem ps_set {g : Gv} {e : Ev} {d : D} (he : Pv c env S e d) (hg : ∀ S1, g d env S1 = some (env1, S1)) : Ps c env S (sSet g e) (.nx env1) := fun S1 l => by
  obtain ⟨S2, e2, l2⟩ := he S1 l
  refine ⟨S2, ?_, l2⟩
  unfold sSet; rw [e2]
  show (match g d env S2 with | some (env1, S2) => Rt.nx env1 S2 | none => .no) = _
  rw [hg]; rfl
theorem ps_ret {e : Ev} {d : D} (he : Pv c env S e d) : Ps c env S (sRet e) (.rt d) := fun S1 l => by
  obtain ⟨S2, e2, l2⟩ := he S1 l
  exact ⟨S2, by unfold sRet; rw [e2]; rfl, l2⟩
theorem ps_x {e : Ev} {d : D} (he : Pv c env S e d) : Ps c env S (sX e) (.nx env) := fun S1 l => by
  obtain ⟨S2, e2, l2⟩ := he S1 l
  exact ⟨S2, by unfold sX; rw [e2]; rfl, l2⟩
theorem ps_xe {e : Ev} {k : Nat} {fs : List (Nat × D)} (he : Pe c env S e k fs) : Ps c env S (sX e) (.ex k fs env) := fun S1 l => by
  obtain ⟨S2, e2, l2⟩ := he S1 l
  exact ⟨S2, by unfold sX; rw [e2]; rfl, l2⟩
theorem ps_rete {e : Ev} {k : Nat} {fs : List (Nat × D)} (he : Pe c env S e k fs) : Ps c env S (sRet e) (.ex k fs env) := fun S1 l => by
  obtain ⟨S2, e2, l2⟩ := he S1 l
  exact ⟨S2, by unfold sRet; rw [e2]; rfl, l2⟩
theorem ps_raise {k : Nat} : Ps c env S (sRaise k) (.ex k [] env) := fun S1 l => ⟨S1, rfl, .refl l.wf⟩
theorem ps_if {t : Tv} {a b : Sv} {k : Bool} {r : Out} (ht : Pt c env S t k) (ha : k = true → Ps c env S a r) (hb : k = false → Ps c env S b r) : Ps c env S (sIf t a b) r := fun S1 l => by
  obtain ⟨S2, e2, l2⟩ := ht S1 l
  unfold sIf
  rw [e2]
  cases k with
  | true =>
    obtain ⟨S3, e3, l3⟩ := ha rfl S2 (l.trans l2)
    exact ⟨S3, e3, l2.trans l3⟩
  | false =>
    obtain ⟨S3, e3, l3⟩ := hb rfl S2 (l.trans l2)
    exact ⟨S3, e3, l2.trans l3⟩
theorem ps_iff {t : Tv} {a b q : Sv} {k : Bool} {r : Out} (ht : Pt c env S t k) (ha : k = true → Ps c env S (sSeq a q) r) (hb : k = false → Ps c env S (sSeq b q) r) : Ps c env S (sSeq (sIf t a b) q) r := fun S1 l => by
  obtain ⟨S2, e2, l2⟩ := ht S1 l
  unfold sSeq sIf
  rw [e2]
  cases k with
  | true =>
    obtain ⟨S3, e3, l3⟩ := ha rfl S2 (l.trans l2)
    exact ⟨S3, e3, l2.trans l3⟩
  | false =>
    obtain ⟨S3, e3, l3⟩ := hb rfl S2 (l.trans l2)
    exact ⟨S3, e3, l2.trans l3⟩
theorem sSeq_nil {q : Sv} : sSeq sNil q = q := rfl
theorem sSeq_assoc {a b d : Sv} : sSeq (sSeq a b) d = sSeq a (sSeq b d) := by
  funext c env S
  unfold sSeq
  cases a c env S <;> rfl
/-- a new list is given a name -/
theorem ps_setl {i : Nat} {e : Ev} {q : Sv} {xs : List D} {r : Out} (he : Pl c env S e xs) (h : ∀ p S1, Le S S1 → S1.get p = some (.lst 0 xs) → S.nx.ix ≤ p.ix → Ps c (env.set i (some (.obj p))) S1 q r) : Ps c env S (sSeq (sSet (gN i) e) q) r := fun S1 l => by
  obtain ⟨p, S2, e2, l2, g2, n2⟩ := he S1 l
  obtain ⟨S3, e3, l3⟩ := h p S2 (l.trans l2) g2 (Nat.le_trans l.nx n2) S2 (.refl l2.wf)
  exact ⟨S3, by unfold sSeq sSet; rw [e2]; exact e3, l2.trans l3⟩
/-- a starred target: the rest is a new list -/
theorem ps_star {k i : Nat} {e : Ev} {q : Sv} {xs : List D} {r : Out} {x : D} {w0 : Bool} (he : Pv c env S e (.tup w0 (x :: xs))) (hl : xs.length < 16000)
    (h : ∀ p S1, Le S S1 → S1.get p = some (.lst 0 xs) → S.nx.ix ≤ p.ix → Ps c ((env.set k (some x)).set i (some (.obj p))) S1 q r) : Ps c env S (sSeq (sSet (gStar [gN k] (gN i)) e) q) r := fun S1 l => by
  obtain ⟨S2, e2, l2⟩ := he S1 l
  have l3 := le_add (o := .lst 0 xs) l2.wf
  obtain ⟨S3, e3, l4⟩ := h S2.nx (S2.add (.lst 0 xs)) (l.trans (l2.trans l3)) add_get (Nat.le_trans l.nx l2.nx) _ (.refl l3.wf)
  refine ⟨S3, ?_, l2.trans (l3.trans l4)⟩
  unfold sSeq sSet; rw [e2]
  have hb : (Nat.ble 1 (xs.length + 1) && Nat.ble (xs.length + 1) 16000) = true := by
    rw [Nat.ble_eq_true_of_le (by omega), Nat.ble_eq_true_of_le (by omega)]; rfl
  have hg : gStar [gN k] (gN i) (.tup w0 (x :: xs)) env S2 = some (((env.set k (some x)).set i (some (.obj S2.nx))), S2.add (.lst 0 xs)) := by
    unfold gStar seqD
    show (match (Nat.ble 1 (xs.length + 1) && Nat.ble (xs.length + 1) 16000) with | true => _ | false => none) = _
    rw [hb]
    show (match mkO (.lst 0 xs) S2 with | .ok l S1 => gSeq [gN k, gN i] [x, l] env S1 | _ => none) = _
    rw [mkO_eq l2.wf]
    rfl
  show (match (match gStar [gN k] (gN i) (.tup w0 (x :: xs)) env S2 with | some (env1, S2) => Rt.nx env1 S2 | none => .no) with | .nx env1 S1 => q c env1 S1 | r => r) = _
  rw [hg]
  exact e3
/-- the same of a new list -/
theorem ps_starl {k i : Nat} {e : Ev} {q : Sv} {xs : List D} {r : Out} {x : D} (he : Pl c env S e (x :: xs)) (hl : xs.length < 16000)
    (h : ∀ p S1, Le S S1 → S1.get p = some (.lst 0 xs) → S.nx.ix ≤ p.ix → Ps c ((env.set k (some x)).set i (some (.obj p))) S1 q r) : Ps c env S (sSeq (sSet (gStar [gN k] (gN i)) e) q) r := fun S1 l => by
  obtain ⟨p0, S2, e2, l2, g2, n2⟩ := he S1 l
  have l3 := le_add (o := .lst 0 xs) l2.wf
  obtain ⟨S3, e3, l4⟩ := h S2.nx (S2.add (.lst 0 xs)) (l.trans (l2.trans l3)) add_get (Nat.le_trans l.nx l2.nx) _ (.refl l3.wf)
  refine ⟨S3, ?_, l2.trans (l3.trans l4)⟩
  unfold sSeq sSet; rw [e2]
  have hb : (Nat.ble 1 (xs.length + 1) && Nat.ble (xs.length + 1) 16000) = true := by
    rw [Nat.ble_eq_true_of_le (by omega), Nat.ble_eq_true_of_le (by omega)]; rfl
  have hg : gStar [gN k] (gN i) (.obj p0) env S2 = some (((env.set k (some x)).set i (some (.obj S2.nx))), S2.add (.lst 0 xs)) := by
    unfold gStar seqD
    dsimp only
    rw [g2]
    show (match (Nat.ble 1 (xs.length + 1) && Nat.ble (xs.length + 1) 16000) with | true => _ | false => none) = _
    rw [hb]
    show (match mkO (.lst 0 xs) S2 with | .ok l S1 => gSeq [gN k, gN i] [x, l] env S1 | _ => none) = _
    rw [mkO_eq l2.wf]
    rfl
  show (match (match gStar [gN k] (gN i) (.obj p0) env S2 with | some (env1, S2) => Rt.nx env1 S2 | none => .no) with | .nx env1 S1 => q c env1 S1 | r => r) = _
  rw [hg]
  exact e3
/-- the list at a place is given back -/
theorem psl_ret {e : Ev} {xs : List D} (he : Pl c env S e xs) : Psl c env S (sRet e) xs := fun S1 l => by
  obtain ⟨p, S2, e2, l2, g2, n2⟩ := he S1 l
  exact ⟨p, S2, by unfold sRet; rw [e2]; rfl, l2, g2, n2⟩
theorem psl_seq {a b : Sv} {xs : List D} (ha : Ps c env S a (.nx env1)) (hb : Psl c env1 S b xs) : Psl c env S (sSeq a b) xs := fun S1 l => by
  obtain ⟨S2, e2, l2⟩ := ha S1 l
  obtain ⟨p, S3, e3, l3, g3, n3⟩ := hb S2 (l.trans l2)
  exact ⟨p, S3, by unfold sSeq; rw [e2]; exact e3, l2.trans l3, g3, Nat.le_trans l2.nx n3⟩
theorem psl_rt {a b : Sv} {xs : List D} (ha : Psl c env S a xs) : Psl c env S (sSeq a b) xs := fun S1 l => by
  obtain ⟨p, S2, e2, l2, g2, n2⟩ := ha S1 l
  exact ⟨p, S2, by unfold sSeq; rw [e2], l2, g2, n2⟩
theorem psl_iff {t : Tv} {a b q : Sv} {k : Bool} {xs : List D} (ht : Pt c env S t k) (ha : k = true → Psl c env S (sSeq a q) xs) (hb : k = false → Psl c env S (sSeq b q) xs) : Psl c env S (sSeq (sIf t a b) q) xs := fun S1 l => by
  obtain ⟨S2, e2, l2⟩ := ht S1 l
  unfold sSeq sIf
  rw [e2]
  cases k with
  | true =>
    obtain ⟨p, S3, e3, l3, g3, n3⟩ := ha rfl S2 (l.trans l2)
    exact ⟨p, S3, e3, l2.trans l3, g3, Nat.le_trans l2.nx n3⟩
  | false =>
    obtain ⟨p, S3, e3, l3, g3, n3⟩ := hb rfl S2 (l.trans l2)
    exact ⟨p, S3, e3, l2.trans l3, g3, Nat.le_trans l2.nx n3⟩
theorem psl_setl {i : Nat} {e : Ev} {q : Sv} {xs ys : List D} (he : Pl c env S e xs) (h : ∀ p S1, Le S S1 → S1.get p = some (.lst 0 xs) → S.nx.ix ≤ p.ix → Psl c (env.set i (some (.obj p))) S1 q ys) : Psl c env S (sSeq (sSet (gN i) e) q) ys := fun S1 l => by
  obtain ⟨p, S2, e2, l2, g2, n2⟩ := he S1 l
  obtain ⟨p', S3, e3, l3, g3, n3⟩ := h p S2 (l.trans l2) g2 (Nat.le_trans l.nx n2) S2 (.refl l2.wf)
  exact ⟨p', S3, by unfold sSeq sSet; rw [e2]; exact e3, l2.trans l3, g3, Nat.le_trans l2.nx n3⟩
theorem pl_if {t : Tv} {a b : Ev} {k : Bool} {xs : List D} (ht : Pt c env S t k) (ha : k = true → Pl c env S a xs) (hb : k = false → Pl c env S b xs) : Pl c env S (eIf t a b) xs := fun S1 l => by
  obtain ⟨S2, e2, l2⟩ := ht S1 l
  unfold eIf
  rw [e2]
  cases k with
  | true =>
    obtain ⟨p, S3, e3, l3, g3, n3⟩ := ha rfl S2 (l.trans l2)
    exact ⟨p, S3, e3, l2.trans l3, g3, Nat.le_trans l2.nx n3⟩
  | false =>
    obtain ⟨p, S3, e3, l3, g3, n3⟩ := hb rfl S2 (l.trans l2)
    exact ⟨p, S3, e3, l2.trans l3, g3, Nat.le_trans l2.nx n3⟩
/-! what is walked -/
theorem pi_tup {e : Ev} {w : Bool} {xs : List D} (he : Pv c env S e (.tup w xs)) : Pi c env S (iVal e) xs := fun S1 l => by
  obtain ⟨S2, e2, l2⟩ := he S1 l
  exact ⟨.tup xs, S2, by unfold iVal; rw [e2]; rfl, l2, fun _ _ _ => rfl, Nat.le_refl _⟩
theorem pi_str {e : Ev} {x : List Nat} (he : Pv c env S e (.str x)) : Pi c env S (iVal e) (x.map fun a => .str [a]) := fun S1 l => by
  obtain ⟨S2, e2, l2⟩ := he S1 l
  refine ⟨.chs x, S2, by unfold iVal; rw [e2]; rfl, l2, fun S' _ i => ?_, by rw [List.length_map]; exact Nat.le_refl _⟩
  unfold Iz.at
  dsimp only
  rw [List.getElem?_map]
  cases x[i]? <;> rfl
theorem zs_lst {p : Po} {xs : List D} (h : seqD (.obj p) S = some xs) (hs : ∀ S1, Le S S1 → seqD (.obj p) S1 = some xs) : Zs (.lst p) S xs := ⟨fun S' l i => by unfold Iz.at; dsimp only; rw [hs S' l], by unfold Iz.fuel; dsimp only; rw [h]; exact Nat.le_refl _⟩
theorem seqD_lst {p : Po} {k : Nat} {xs : List D} (h : S.get p = some (.lst k xs)) : seqD (.obj p) S = some xs := by unfold seqD; dsimp only; rw [h]
theorem seqD_rol {p : Po} {xs : List D} (h : S.get p = some (.rol xs)) : seqD (.obj p) S = some xs := by unfold seqD; dsimp only; rw [h]
/-- a list that stands in a slot -/
theorem pi_obj {e : Ev} {p : Po} {xs : List D} (he : Pv c env S e (.obj p)) (hs : ∀ S1, Le S S1 → seqD (.obj p) S1 = some xs) : Pi c env S (iVal e) xs := fun S1 l => by
  obtain ⟨S2, e2, l2⟩ := he S1 l
  have h2 := hs S2 (l.trans l2)
  refine ⟨.lst p, S2, ?_, l2, zs_lst h2 fun S3 l3 => hs S3 (l.trans (l2.trans l3))⟩
  unfold iVal; rw [e2]
  show (match seqD (.obj p) S2 with | some _ => Rs.ok (Iz.lst p) S2 | none => .no) = _
  rw [h2]
/-- a new list -/
theorem pi_new {e : Ev} {xs : List D} (he : Pl c env S e xs) : Pi c env S (iVal e) xs := fun S1 l => by
  obtain ⟨p, S2, e2, l2, g2, _⟩ := he S1 l
  refine ⟨.lst p, S2, ?_, l2, zs_lst (seqD_lst g2) fun S3 l3 => seqD_lst (l3.get g2)⟩
  unfold iVal; rw [e2]
  show (match seqD (.obj p) S2 with | some _ => Rs.ok (Iz.lst p) S2 | none => .no) = _
  rw [seqD_lst g2]
def rngL (lo : Int) (n : Nat) : List D := (List.range n).map fun i => .int (lo + (i : Nat))
theorem zs_rng {lo : Int} {n : Nat} : Zs (.rng lo n) S (rngL lo n) := ⟨fun S' _ i => by
  unfold Iz.at rngL
  dsimp only
  rw [List.getElem?_map]
  by_cases h : i < n
  · rw [Nat.blt_eq.mpr h, List.getElem?_range h]; rfl
  · rw [List.getElem?_eq_none (by simpa using h)]
    cases q : Nat.blt i n with
    | true => exact absurd (Nat.blt_eq.mp q) h
    | false => rfl, by unfold Iz.fuel rngL; dsimp only; rw [List.length_map, List.length_range]; exact Nat.le_refl _⟩
theorem pi_rng {a : Ev} {j : Int} (ha : Pv c env S a (.int j)) (hs : smallI j = true) : Pi c env S (iRange (aCons a aNil)) (rngL 0 j.toNat) := fun S1 l => by
  obtain ⟨S2, e2, l2⟩ := ha S1 l
  refine ⟨.rng 0 j.toNat, S2, ?_, l2, zs_rng⟩
  unfold iRange aCons; rw [e2]
  show (match smallI j with | true => Rs.ok (Iz.rng 0 j.toNat) S2 | false => .no) = _
  rw [hs]
theorem pi_rng2 {a b : Ev} {i j : Int} (ha : Pv c env S a (.int i)) (hb : Pv c env S b (.int j)) (hs : smallI i = true) (ht : smallI j = true) : Pi c env S (iRange2 (aCons a (aCons b aNil))) (rngL i (j - i).toNat) := fun S1 l => by
  obtain ⟨S2, e2, l2⟩ := ha S1 l
  obtain ⟨S3, e3, l3⟩ := hb S2 (l.trans l2)
  refine ⟨.rng i (j - i).toNat, S3, ?_, l2.trans l3, zs_rng⟩
  unfold iRange2 aCons; rw [e2]
  show ((Rs.bind ((b c env S2).bind _) _).bind _) = _
  rw [e3]
  show (match smallI i && smallI j with | true => Rs.ok (Iz.rng i (j - i).toNat) S3 | false => .no) = _
  rw [hs, ht]; rfl
def enmL (xs : List D) : List D := (List.range xs.length).map fun i => .tup true [.int (.ofNat i), (xs[i]?).getD .non]
theorem zs_enm {p : Po} {xs : List D} (h : seqD (.obj p) S = some xs) (hs : ∀ S1, Le S S1 → seqD (.obj p) S1 = some xs) : Zs (.enm p) S (enmL xs) := ⟨fun S' l i => by
  unfold Iz.at enmL
  dsimp only
  rw [hs S' l, List.getElem?_map]
  dsimp only
  by_cases hi : i < xs.length
  · rw [List.getElem?_range hi, List.getElem?_eq_getElem hi]; simp [List.getElem?_eq_getElem hi]
  · rw [List.getElem?_eq_none (by simpa using hi), List.getElem?_eq_none (by simpa using hi)]; rfl, by unfold Iz.fuel enmL; dsimp only; rw [h, List.length_map, List.length_range]; exact Nat.le_refl _⟩
theorem pi_enm {a : Ev} {p : Po} {xs : List D} (ha : Pv c env S a (.obj p)) (hs : ∀ S1, Le S S1 → seqD (.obj p) S1 = some xs) : Pi c env S (iEnm (aCons a aNil)) (enmL xs) := fun S1 l => by
  obtain ⟨S2, e2, l2⟩ := ha S1 l
  have h2 := hs S2 (l.trans l2)
  refine ⟨.enm p, S2, ?_, l2, zs_enm h2 fun S3 l3 => hs S3 (l.trans (l2.trans l3))⟩
  unfold iEnm aCons; rw [e2]
  show (match seqD (.obj p) S2 with | some _ => Rs.ok (Iz.enm p) S2 | none => .no) = _
  rw [h2]
theorem pi_enmn {a : Ev} {xs : List D} (ha : Pl c env S a xs) : Pi c env S (iEnm (aCons a aNil)) (enmL xs) := fun S1 l => by
  obtain ⟨p, S2, e2, l2, g2, _⟩ := ha S1 l
  refine ⟨.enm p, S2, ?_, l2, zs_enm (seqD_lst g2) fun S3 l3 => seqD_lst (l3.get g2)⟩
  unfold iEnm aCons; rw [e2]
  show (match seqD (.obj p) S2 with | some _ => Rs.ok (Iz.enm p) S2 | none => .no) = _
  rw [seqD_lst g2]
theorem pi_enmS {a : Ev} {x : List Nat} (ha : Pv c env S a (.str x)) (hx : x.all (· < 128) = true) : Pi c env S (iEnmS (aCons a aNil)) (pairsL 0 x) := fun S1 l => by
  obtain ⟨S2, e2, l2⟩ := ha S1 l
  refine ⟨.tup (pairsL 0 x), S2, ?_, l2, fun _ _ _ => rfl, Nat.le_refl _⟩
  unfold iEnmS aCons; rw [e2]
  show (match x.all (· < 128) with | true => Rs.ok (Iz.tup (pairsL 0 x)) S2 | false => .no) = _
  rw [hx]
def zipD : List D → List D → List D
  | x :: xs, y :: ys => .tup true [x, y] :: zipD xs ys
  | _, _ => []
theorem zipD_len : ∀ xs ys : List D, (zipD xs ys).length ≤ xs.length
  | [], _ => by simp [zipD]
  | x :: xs, [] => by simp [zipD]
  | x :: xs, y :: ys => by simpa [zipD] using zipD_len xs ys
theorem zipD_get : ∀ (xs ys : List D) (i : Nat), (zipD xs ys)[i]? = match xs[i]? with
    | some d => match ys[i]? with
      | some e => some (.tup true [d, e])
      | none => none
    | none => none
  | [], ys, i => by simp [zipD]
  | x :: xs, [], i => by cases (x :: xs)[i]? <;> simp [zipD]
  | x :: xs, y :: ys, 0 => by simp [zipD]
  | x :: xs, y :: ys, i + 1 => by simpa [zipD] using zipD_get xs ys i
theorem zs_zip {p q : Po} {xs ys : List D} (h : seqD (.obj p) S = some xs) (hs : ∀ S1, Le S S1 → seqD (.obj p) S1 = some xs) (ht : ∀ S1, Le S S1 → seqD (.obj q) S1 = some ys) : Zs (.zp p q) S (zipD xs ys) := ⟨fun S' l i => by
  unfold Iz.at
  dsimp only
  rw [hs S' l, ht S' l, zipD_get]
  dsimp only
  cases xs[i]? with
  | none => rfl
  | some d => cases ys[i]? <;> rfl, by unfold Iz.fuel; dsimp only; rw [h]; exact Nat.succ_le_succ (zipD_len xs ys)⟩
/-- for lists in slots, parts of them -/
theorem pi_zip {a b : Ev} {p : Po} {xs ys : List D} (ha : Pv c env S a (.obj p)) (hs : ∀ S1, Le S S1 → seqD (.obj p) S1 = some xs) (hb : Pl c env S b ys) : Pi c env S (iZp (aCons a (aCons b aNil))) (zipD xs ys) := fun S1 l => by
  obtain ⟨S2, e2, l2⟩ := ha S1 l
  obtain ⟨q, S3, e3, l3, g3, _⟩ := hb S2 (l.trans l2)
  have h3 := hs S3 (l.trans (l2.trans l3))
  refine ⟨.zp p q, S3, ?_, l2.trans l3, zs_zip h3 (fun S4 l4 => hs S4 (l.trans (l2.trans (l3.trans l4)))) fun S4 l4 => seqD_lst (l4.get g3)⟩
  unfold iZp aCons; rw [e2]
  show ((Rs.bind ((b c env S2).bind _) _).bind _) = _
  rw [e3]
  show (match seqD (.obj p) S3 with | some _ => (match seqD (.obj q) S3 with | some _ => Rs.ok (Iz.zp p q) S3 | none => .no) | none => .no) = _
  rw [h3, seqD_lst g3]
/-! comprehensions -/
theorem lcF_run {z : Iz} {g : Gv} {q : Tv} {e : Ev} {xs : List D} {f : D → Option D} (hz : ∀ S', Le S S' → ∀ i : Nat, z.at i S' = some xs[i]?)
    (hb : ∀ x ∈ xs, ∃ env1, (∀ S1, g x env S1 = some (env1, S1)) ∧ Pt c env1 S q (f x).isSome ∧ ∀ y, f x = some y → Pv c env1 S e y) (hbig : xs.length ≤ big) :
    ∀ (n i : Nat) (acc : List D) (S1 : Sto), Le S S1 → xs.length < n + i → i ≤ xs.length → acc.length ≤ i → ∃ S2, lcF z g q e c env n i acc S1 = .ok (acc ++ (xs.drop i).filterMap f) S2 ∧ Le S1 S2
  | 0, i, acc, S1, l, hn, hi, _ => by omega
  | n + 1, i, acc, S1, l, hn, hi, ha => by
    unfold lcF
    rw [hz S1 l i]
    by_cases h : i < xs.length
    · rw [List.getElem?_eq_getElem h]
      dsimp only
      obtain ⟨env1, hg, hq, he⟩ := hb xs[i] (List.getElem_mem h)
      rw [hg]
      dsimp only
      obtain ⟨S2, e2, l2⟩ := hq S1 l
      rw [e2]
      have hd : (xs.drop i).filterMap f = (xs[i] :: xs.drop (i + 1)).filterMap f := by rw [List.drop_eq_getElem_cons h]
      cases hf : f xs[i] with
      | none =>
        dsimp only [Option.isSome]
        obtain ⟨S3, e3, l3⟩ := lcF_run hz hb hbig n (i + 1) acc S2 (l.trans l2) (by omega) h (by omega)
        exact ⟨S3, by rw [e3, hd, List.filterMap_cons, hf], l2.trans l3⟩
      | some y =>
        dsimp only [Option.isSome]
        obtain ⟨S3, e3, l3⟩ := he y hf S2 (l.trans l2)
        rw [e3]
        dsimp only
        rw [Nat.blt_eq.mpr (show acc.length < big by omega)]
        dsimp only
        obtain ⟨S4, e4, l4⟩ := lcF_run hz hb hbig n (i + 1) (acc ++ [y]) S3 (l.trans (l2.trans l3)) (by omega) h (by simp; omega)
        exact ⟨S4, by rw [e4, hd, List.filterMap_cons, hf]; simp, l2.trans (l3.trans l4)⟩
    · rw [List.getElem?_eq_none (by omega)]
      exact ⟨S1, by rw [List.drop_eq_nil_of_le (by omega)]; simp, .refl l.wf⟩
theorem pl_lcq {vs : List Nat} {it : Iv} {g : Gv} {q : Tv} {e : Ev} {xs : List D} {f : D → Option D} (hi : Pi c env S it xs)
    (hb : ∀ x ∈ xs, ∃ env1, (∀ S1, g x (wipeD env vs) S1 = some (env1, S1)) ∧ Pt c env1 S q (f x).isSome ∧ ∀ y, f x = some y → Pv c env1 S e y) (hbig : xs.length ≤ big) : Pl c env S (eLc vs it g q e) (xs.filterMap f) := fun S1 l => by
  obtain ⟨z, S2, e2, l2, hz, hf⟩ := hi S1 l
  obtain ⟨S3, e3, l3⟩ := lcF_run (c := c) (env := wipeD env vs) (S := S2) (g := g) (q := q) (e := e) (f := f) hz (fun x hx => by
    obtain ⟨env1, a, b, d⟩ := hb x hx
    exact ⟨env1, a, b.le (l.trans l2), fun y hy => (d y hy).le (l.trans l2)⟩) hbig (z.fuel S2) 0 [] S2 (.refl l2.wf) (by omega) (Nat.zero_le _) (Nat.le_refl _)
  refine ⟨S3.nx, S3.add (.lst 0 (xs.filterMap f)), ?_, l2.trans (l3.trans (le_add l3.wf)), add_get, Nat.le_trans l2.nx l3.nx⟩
  unfold eLc; rw [e2]
  show ((lcF z g q e c (wipeD env vs) (z.fuel S2) 0 [] S2).bind _) = _
  rw [e3]
  exact mkO_eq l3.wf
theorem pl_lc {vs : List Nat} {it : Iv} {g : Gv} {e : Ev} {xs : List D} {f : D → D} (hi : Pi c env S it xs) (hb : ∀ x ∈ xs, ∃ env1, (∀ S1, g x (wipeD env vs) S1 = some (env1, S1)) ∧ Pv c env1 S e (f x)) (hbig : xs.length ≤ big) :
    Pl c env S (eLc vs it g tYesV e) (xs.map f) := by
  have := pl_lcq (vs := vs) (q := tYesV) (e := e) (f := fun x => some (f x)) hi (fun x hx => by
    obtain ⟨env1, a, b⟩ := hb x hx
    exact ⟨env1, a, pt_yes, fun y hy => by cases hy; exact b⟩) hbig
  simpa using this
/-- an element raises: all before it don't -/
theorem lcF_ex {z : Iz} {g : Gv} {e : Ev} {xs : List D} {f : D → D} {m k : Nat} {fs : List (Nat × D)} (hm : m < xs.length) (hz : ∀ S', Le S S' → ∀ i : Nat, z.at i S' = some xs[i]?)
    (hb : ∀ x ∈ xs.take m, ∃ env1, (∀ S1, g x env S1 = some (env1, S1)) ∧ Pv c env1 S e (f x)) (hx : ∃ env1, (∀ S1, g xs[m] env S1 = some (env1, S1)) ∧ Pe c env1 S e k fs) (hbig : xs.length ≤ big) :
    ∀ (n i : Nat) (acc : List D) (S1 : Sto), Le S S1 → xs.length < n + i → i ≤ m → acc.length ≤ i → ∃ S2, lcF z g tYesV e c env n i acc S1 = .ex k fs S2 ∧ Le S1 S2
  | 0, i, acc, S1, l, hn, hi, _ => by omega
  | n + 1, i, acc, S1, l, hn, hi, ha => by
    unfold lcF
    rw [hz S1 l i]
    have h : i < xs.length := by omega
    rw [List.getElem?_eq_getElem h]
    dsimp only
    rcases Nat.lt_or_ge i m with h2 | h2
    · obtain ⟨env1, hg, he⟩ := hb xs[i] (List.mem_take_iff_getElem.mpr ⟨i, by omega, rfl⟩)
      rw [hg]
      dsimp only [tYesV]
      obtain ⟨S3, e3, l3⟩ := he S1 l
      rw [e3]
      dsimp only
      rw [Nat.blt_eq.mpr (show acc.length < big by omega)]
      dsimp only
      obtain ⟨S4, e4, l4⟩ := lcF_ex hm hz hb hx hbig n (i + 1) (acc ++ [f xs[i]]) S3 (l.trans l3) (by omega) (by omega) (by simp; omega)
      exact ⟨S4, e4, l3.trans l4⟩
    · obtain rfl : i = m := by omega
      obtain ⟨env1, hg, he⟩ := hx
      rw [hg]
      dsimp only [tYesV]
      obtain ⟨S3, e3, l3⟩ := he S1 l
      rw [e3]
      exact ⟨S3, rfl, l3⟩
theorem pe_lc {vs : List Nat} {it : Iv} {g : Gv} {e : Ev} {xs : List D} {f : D → D} {m k : Nat} {fs : List (Nat × D)} (hi : Pi c env S it xs) (hm : m < xs.length) (hb : ∀ x ∈ xs.take m, ∃ env1, (∀ S1, g x (wipeD env vs) S1 = some (env1, S1)) ∧ Pv c env1 S e (f x))
    (hx : ∃ env1, (∀ S1, g xs[m] (wipeD env vs) S1 = some (env1, S1)) ∧ Pe c env1 S e k fs) (hbig : xs.length ≤ big) : Pe c env S (eLc vs it g tYesV e) k fs := fun S1 l => by
  obtain ⟨z, S2, e2, l2, hz, hf⟩ := hi S1 l
  obtain ⟨S3, e3, l3⟩ := lcF_ex (c := c) (env := wipeD env vs) (S := S2) (g := g) (e := e) (f := f) hm hz (fun x hx => by
    obtain ⟨env1, a, b⟩ := hb x hx
    exact ⟨env1, a, b.le (l.trans l2)⟩) (by
    obtain ⟨env1, a, b⟩ := hx
    exact ⟨env1, a, fun S5 k5 => b S5 (l.trans (l2.trans k5))⟩) hbig (z.fuel S2) 0 [] S2 (.refl l2.wf) (by omega) (Nat.zero_le _) (Nat.le_refl _)
  refine ⟨S3, ?_, l2.trans l3⟩
  unfold eLc; rw [e2]
  show ((lcF z g tYesV e c (wipeD env vs) (z.fuel S2) 0 [] S2).bind _) = _
  rw [e3]; rfl
/-! the length of a set -/
theorem scF_run {z : Iz} {g : Gv} {e : Ev} {xs : List D} {f : D → Ky} (hz : ∀ S', Le S S' → ∀ i : Nat, z.at i S' = some xs[i]?)
    (hb : ∀ x ∈ xs, ∃ env1 y, (∀ S1, g x env S1 = some (env1, S1)) ∧ Pv c env1 S e y ∧ keyD y = some (f x)) (hbig : xs.length < 4000) :
    ∀ (n i : Nat) (acc : List Ky) (S1 : Sto), Le S S1 → xs.length < n + i → i ≤ xs.length → acc.length ≤ i → ∃ S2, scF z g tYesV e c env n i acc S1 = .ok ((xs.drop i).foldl (fun a x => addK a (f x)) acc) S2 ∧ Le S1 S2
  | 0, i, acc, S1, l, hn, hi, _ => by omega
  | n + 1, i, acc, S1, l, hn, hi, ha => by
    unfold scF
    rw [hz S1 l i]
    by_cases h : i < xs.length
    · rw [List.getElem?_eq_getElem h]
      dsimp only
      obtain ⟨env1, y, hg, he, hk⟩ := hb xs[i] (List.getElem_mem h)
      rw [hg]
      dsimp only [tYesV]
      obtain ⟨S3, e3, l3⟩ := he S1 l
      rw [e3]
      dsimp only
      rw [hk]
      dsimp only
      rw [Nat.blt_eq.mpr (show acc.length < 4000 by omega)]
      dsimp only
      have hl : (addK acc (f xs[i])).length ≤ i + 1 := by
        unfold addK
        split
        · omega
        · simp; omega
      obtain ⟨S4, e4, l4⟩ := scF_run hz hb hbig n (i + 1) (addK acc (f xs[i])) S3 (l.trans l3) (by omega) h hl
      exact ⟨S4, by rw [e4, List.drop_eq_getElem_cons h]; rfl, l3.trans l4⟩
    · rw [List.getElem?_eq_none (by omega)]
      dsimp only
      rw [Nat.blt_eq.mpr (show acc.length < 4000 by omega)]
      exact ⟨S1, by rw [List.drop_eq_nil_of_le (by omega)]; rfl, .refl l.wf⟩
theorem pv_lenSc {vs : List Nat} {it : Iv} {g : Gv} {e : Ev} {xs : List D} {f : D → Ky} (hi : Pi c env S it xs) (hb : ∀ x ∈ xs, ∃ env1 y, (∀ S1, g x (wipeD env vs) S1 = some (env1, S1)) ∧ Pv c env1 S e y ∧ keyD y = some (f x)) (hbig : xs.length < 4000) :
    Pv c env S (eLenSc vs it g tYesV e) (.int (.ofNat (xs.foldl (fun a x => addK a (f x)) []).length)) := fun S1 l => by
  obtain ⟨z, S2, e2, l2, hz, hf⟩ := hi S1 l
  obtain ⟨S3, e3, l3⟩ := scF_run (c := c) (env := wipeD env vs) (S := S2) (g := g) (e := e) (f := f) hz (fun x hx => by
    obtain ⟨env1, y, a, b, d⟩ := hb x hx
    exact ⟨env1, y, a, b.le (l.trans l2), d⟩) hbig (z.fuel S2) 0 [] S2 (.refl l2.wf) (by omega) (Nat.zero_le _) (Nat.le_refl _)
  refine ⟨S3, ?_, l2.trans l3⟩
  unfold eLenSc; rw [e2]
  show ((scF z g tYesV e c (wipeD env vs) (z.fuel S2) 0 [] S2).bind _) = _
  rw [e3]; rfl
/-! loops -/
/-- an invariant of slots and store; a turn may leave -/
theorem for_inv {z : Iz} {g : Gv} {b : Sv} {xs : List D} (I : Nat → Slots → Sto → Prop) (R : Rt → Prop) (hz : ∀ i env S1, I i env S1 → z.at i S1 = some xs[i]?)
    (step : ∀ i (h : i < xs.length) env S1, I i env S1 → ∃ env1 S2, g xs[i] env S1 = some (env1, S2) ∧ ((∃ env2 S3, (b c env1 S2 = .nx env2 S3 ∨ b c env1 S2 = .ct env2 S3) ∧ I (i + 1) env2 S3) ∨
      (R (b c env1 S2) ∧ ((∃ d S3, b c env1 S2 = .rt d S3) ∨ ∃ k fs e S3, b c env1 S2 = .ex k fs e S3)))) :
    ∀ (n i : Nat) (env : Slots) (S1 : Sto), I i env S1 → xs.length < n + i → i ≤ xs.length → (∃ env2 S2, forF z g b c n i env S1 = .nx env2 S2 ∧ I xs.length env2 S2) ∨ (R (forF z g b c n i env S1) ∧ ((∃ d S3, forF z g b c n i env S1 = .rt d S3) ∨ ∃ k fs e S3, forF z g b c n i env S1 = .ex k fs e S3))
  | 0, i, env, S1, _, hn, hi => by omega
  | n + 1, i, env, S1, hI, hn, hi => by
    unfold forF
    rw [hz i env S1 hI]
    by_cases h : i < xs.length
    · rw [List.getElem?_eq_getElem h]
      obtain ⟨env1, S2, hg, hs⟩ := step i h env S1 hI
      dsimp only
      rw [hg]
      dsimp only
      rcases hs with ⟨env2, S3, (e | e), h2⟩ | ⟨r, ⟨d, S3, e⟩ | ⟨k, fs, e', S3, e⟩⟩
      · rw [e]; exact for_inv I R hz step n (i + 1) env2 S3 h2 (by omega) h
      · rw [e]; exact for_inv I R hz step n (i + 1) env2 S3 h2 (by omega) h
      · rw [e] at r ⊢; exact .inr ⟨r, .inl ⟨d, S3, rfl⟩⟩
      · rw [e] at r ⊢; exact .inr ⟨r, .inr ⟨k, fs, e', S3, rfl⟩⟩
    · rw [List.getElem?_eq_none (by omega)]
      obtain rfl : i = xs.length := by omega
      exact .inl ⟨env, S1, rfl, hI⟩
/-- a loop that looks: an item that is not good leaves with d -/
theorem ps_for_all {g : Gv} {it : Iv} {b q : Sv} {xs : List D} {r : Out} {d : D} (good : D → Bool) (J : Slots → Prop) (hi : Pi c env S it xs) (h0 : J env)
    (turn : ∀ x ∈ xs, ∀ env, J env → ∃ env1, (∀ S1, g x env S1 = some (env1, S1)) ∧ (good x = true → ∃ env2, Ps c env1 S b (.nx env2) ∧ J env2) ∧ (good x = false → Ps c env1 S b (.rt d)))
    (hq : (∀ x ∈ xs, good x = true) → ∀ env, J env → Ps c env S q r) (hbad : ∀ x ∈ xs, good x = false → r = .rt d) : Ps c env S (sSeq (sFor g it b) q) r := fun S1 l => by
  obtain ⟨z, S2, e2, l2, hz, hf⟩ := hi S1 l
  have key := for_inv (c := c) (z := z) (g := g) (b := b) (xs := xs) (fun i env S3 => J env ∧ Le S2 S3 ∧ ∀ (k : Nat) (h : k < xs.length), k < i → good xs[k] = true) (fun t => ∃ S3, t = .rt d S3 ∧ Le S2 S3 ∧ ∃ x ∈ xs, good x = false)
    (fun i env S3 h => hz S3 h.2.1 i) (fun i h env S3 hI => by
      obtain ⟨hJ, l3, hk⟩ := hI
      obtain ⟨env1, hg, h1, h2⟩ := turn xs[i] (List.getElem_mem h) env hJ
      refine ⟨env1, S3, hg S3, ?_⟩
      cases hgd : good xs[i] with
      | true =>
        obtain ⟨env2, hp, hJ2⟩ := h1 hgd
        obtain ⟨S4, e4, l4⟩ := hp S3 (l.trans (l2.trans l3))
        refine .inl ⟨env2, S4, .inl e4, hJ2, l3.trans l4, fun k hk1 hk2 => ?_⟩
        rcases Nat.lt_or_ge k i with z1 | z1
        · exact hk k hk1 z1
        · obtain rfl : k = i := by omega
          exact hgd
      | false =>
        obtain ⟨S4, e4, l4⟩ := h2 hgd S3 (l.trans (l2.trans l3))
        exact .inr ⟨⟨S4, e4, l3.trans l4, xs[i], List.getElem_mem h, hgd⟩, .inl ⟨d, S4, e4⟩⟩) (z.fuel S2) 0 env S2 ⟨h0, .refl l2.wf, fun k _ h => absurd h (Nat.not_lt_zero k)⟩ (by omega) (Nat.zero_le _)
  have ef : sSeq (sFor g it b) q c env S1 = match forF z g b c (z.fuel S2) 0 env S2 with
    | .nx env1 S1 => q c env1 S1
    | r => r := by
    unfold sSeq sFor; rw [e2]; rfl
  rw [ef]
  rcases key with ⟨env2, S3, e3, hJ, l3, hk⟩ | ⟨⟨S3, e3, l3, x, hx, hgx⟩, _⟩
  · rw [e3]
    obtain ⟨S4, e4, l4⟩ := hq (fun x hx => by
      obtain ⟨k, hk1, rfl⟩ := List.getElem_of_mem hx
      exact hk k hk1 hk1) env2 hJ S3 (l.trans (l2.trans l3))
    exact ⟨S4, e4, l2.trans (l3.trans l4)⟩
  · rw [e3, hbad x hx hgx]
    exact ⟨S3, rfl, l2.trans l3⟩
/-! a def by its body -/
theorem fv_body {c' : Cal} {j n0 : Nat} {b : Sv} {ds : List D} {d : D} (hc : ∀ ds S, c' j ds S = Fn.run ⟨n0, b⟩ c ds S) (h : Ps c (ds.map some ++ List.replicate (n0 - ds.length) none) S b (.rt d)) : Fv c' j ds S d := fun S1 l => by
  obtain ⟨S2, e2, l2⟩ := h S1 l
  exact ⟨S2, by rw [hc]; unfold Fn.run; dsimp only; rw [e2]; rfl, l2⟩
theorem fv_none {c' : Cal} {j n0 : Nat} {b : Sv} {ds : List D} (hc : ∀ ds S, c' j ds S = Fn.run ⟨n0, b⟩ c ds S) (h : Ps c (ds.map some ++ List.replicate (n0 - ds.length) none) S b (.nx env)) : Fv c' j ds S .non := fun S1 l => by
  obtain ⟨S2, e2, l2⟩ := h S1 l
  exact ⟨S2, by rw [hc]; unfold Fn.run; dsimp only; rw [e2]; rfl, l2⟩
theorem fe_body {c' : Cal} {j n0 : Nat} {b : Sv} {ds : List D} {k : Nat} {fs : List (Nat × D)} (hc : ∀ ds S, c' j ds S = Fn.run ⟨n0, b⟩ c ds S) (h : Ps c (ds.map some ++ List.replicate (n0 - ds.length) none) S b (.ex k fs env)) : Fe c' j ds S k fs := fun S1 l => by
  obtain ⟨S2, e2, l2⟩ := h S1 l
  exact ⟨S2, by rw [hc]; unfold Fn.run; dsimp only; rw [e2]; rfl, l2⟩
theorem fl_body {c' : Cal} {j n0 : Nat} {b : Sv} {ds xs : List D} (hc : ∀ ds S, c' j ds S = Fn.run ⟨n0, b⟩ c ds S) (h : Psl c (ds.map some ++ List.replicate (n0 - ds.length) none) S b xs) : Fl c' j ds S xs := fun S1 l => by
  obtain ⟨p, S2, e2, l2, g2, n2⟩ := h S1 l
  exact ⟨p, S2, by rw [hc]; unfold Fn.run; dsimp only; rw [e2], l2, g2, n2⟩
end
end Ev
set_option Elab.async false
set_option linter.all false
set_option maxRecDepth 100000
set_option maxHeartbeats 0
namespace Ev
open PySem PySem.Spec PyProof.Rows L2

def kv_201 : List (List Nat × D) := [([121, 101, 115], (.bl true)), ([110, 111], (.bl false)), ([45], .non)]
def it_NoAsk : List (Nat × Bool) := [(6, true), (2, false)]
def it_NoState : List (Nat × Bool) := [(6, false), (2, true)]
def mt_HeadError : List (Nat × Bool) := [(6, true), (2, true)]
def mg_10_least : List D → List D → List D := fun us ws => us ++ ((ws.drop 0).take 1 ++ ([(.int (1000000000))]))
def mg_10_least_most : List D → List D → List D := fun us ws => us ++ ((ws.drop 0).take 1 ++ ((ws.drop 1).take 1))
def mg_10_most : List D → List D → List D := fun us ws => us ++ ([(.int (0))] ++ ((ws.drop 0).take 1))
def b_is_whole : Sv :=
 (sSeq (sRet (eAnd (eIs .int (eVar 0)) (eNot (eIs .bl (eVar 0)))))
 sNil)
def f_9 : Fn := ⟨1, b_is_whole⟩
def b_is_from : Sv :=
 (sSeq (sRet (eAnd (eCall 9 [] (aCons (eVar 0) aNil)) (eChain dLe dLe (eVar 1) (eVar 0) (eVar 2))))
 sNil)
def f_10 : Fn := ⟨3, b_is_from⟩
def b_is_house : Sv :=
 (sSeq (sRet (eCallK 10 mg_10_most (aCons (eVar 0) aNil) (aCons (eC (.int (30))) aNil)))
 sNil)
def f_11 : Fn := ⟨1, b_is_house⟩
def b_is_members : Sv :=
 (sSeq (sIf (tOr' (tNot' (tOf (eIs .tup (eVar 0)))) (tNot' (tOf (eChain dLe dLe (eC (.int (1))) (eB bLen (aCons (eVar 0) aNil)) (eC (.int (7)))))))
 (sSeq (sRet (eC (.bl false)))
 sNil)
 sNil)
 (sSeq (sRet (eAnd (eB bAll (aCons (eLc [1] (iVal (eVar 0)) (gN 1) tYesV (eCall 11 [] (aCons (eVar 1) aNil))) aNil)) (eBin dEq (eLenSc [1] (iVal (eVar 0)) (gN 1) tYesV (eVar 1)) (eB bLen (aCons (eVar 0) aNil)))))
 sNil))
def f_12 : Fn := ⟨2, b_is_members⟩
def b_is_name : Sv :=
 (sSeq (sRet (eAnd (eIs .str (eVar 0)) (eAnd (eChain dLe dLe (eC (.int (1))) (eB bLen (aCons (eVar 0) aNil)) (eC (.int (8)))) (eB bAll (aCons (eLc [1] (iVal (eVar 0)) (gN 1) tYesV (eBin dIn (eVar 1) (eC (.str [97, 98, 99, 100, 101, 102, 103, 104, 105, 106, 107, 108, 109, 110, 111, 112, 113, 114, 115, 116, 117, 118, 119, 120, 121, 122])))) aNil)))))
 sNil)
def f_18 : Fn := ⟨2, b_is_name⟩
def b_is_deed : Sv :=
 (sSeq (sIf (tOr' (tNot' (tOf (eIs .tup (eVar 0)))) (tOr' (tOf (eBin dLt (eB bLen (aCons (eVar 0) aNil)) (eC (.int (2))))) (tNot' (tOf (eIs .str (eBin dSub' (eVar 0) (eC (.int (0)))))))))
 (sSeq (sRet (eC (.bl false)))
 sNil)
 sNil)
 (sSeq (sSet (gStar [(gN 1)] (gN 2)) (eVar 0))
 (sSeq (sIf (tOf (eBin dIn (eVar 1) (eTup (aCons (eC (.str [112, 117, 116])) (aCons (eC (.str [97, 100, 100])) aNil)))))
 (sSeq (sRet (eAnd (eBin dEq (eB bLen (aCons (eVar 2) aNil)) (eC (.int (2)))) (eAnd (eCall 18 [] (aCons (eBin dSub' (eVar 2) (eC (.int (0)))) aNil)) (eCallK 10 mg_10_least_most (aCons (eBin dSub' (eVar 2) (eC (.int (1)))) aNil) (aCons (eBin dSub (eC (.int (0))) (eC (.int (1000000000000)))) (aCons (eC (.int (1000000000000))) aNil))))))
 sNil)
 sNil)
 (sSeq (sIf (tOf (eBin dEq (eVar 1) (eC (.str [100, 114, 111, 112]))))
 (sSeq (sRet (eAnd (eBin dEq (eB bLen (aCons (eVar 2) aNil)) (eC (.int (1)))) (eCall 18 [] (aCons (eBin dSub' (eVar 2) (eC (.int (0)))) aNil))))
 sNil)
 sNil)
 (sSeq (sIf (tOr' (tOf (eBin dNe (eVar 1) (eC (.str [115, 119, 97, 112])))) (tOf (eBin dNe (eB bLen (aCons (eVar 2) aNil)) (eC (.int (2))))))
 (sSeq (sRet (eC (.bl false)))
 sNil)
 sNil)
 (sSeq (sRet (eAnd (eCall 11 [] (aCons (eBin dSub' (eVar 2) (eC (.int (0)))) aNil)) (eAnd (eCall 11 [] (aCons (eBin dSub' (eVar 2) (eC (.int (1)))) aNil)) (eBin dNe (eBin dSub' (eVar 2) (eC (.int (0)))) (eBin dSub' (eVar 2) (eC (.int (1))))))))
 sNil))))))
def f_19 : Fn := ⟨3, b_is_deed⟩
def b_is_asker : Sv :=
 (sSeq (sRet (eCallK 10 mg_10_most (aCons (eVar 0) aNil) (aCons (eC (.int (9))) aNil)))
 sNil)
def f_20 : Fn := ⟨1, b_is_asker⟩
def b_is_ask : Sv :=
 (sSeq (sIf (tOr' (tNot' (tOf (eIs .tup (eVar 0)))) (tOf (eBin dNe (eB bLen (aCons (eVar 0) aNil)) (eC (.int (3))))))
 (sSeq (sRet (eC (.bl false)))
 sNil)
 sNil)
 (sSeq (sRet (eAnd (eCall 20 [] (aCons (eBin dSub' (eVar 0) (eC (.int (0)))) aNil)) (eAnd (eCallK 10 mg_10_least (aCons (eBin dSub' (eVar 0) (eC (.int (1)))) aNil) (aCons (eC (.int (1))) aNil)) (eCall 19 [] (aCons (eBin dSub' (eVar 0) (eC (.int (2)))) aNil)))))
 sNil))
def f_21 : Fn := ⟨1, b_is_ask⟩
def b_rises : Sv :=
 (sSeq (sRet (eB bAll (aCons (eLc [1, 2] (iZp (aCons (eVar 0) (aCons (eSl (eVar 0) (oPart (eC (.int (1)))) oNo) aNil))) (gT [(gN 1), (gN 2)]) tYesV (eBin dLt (eVar 1) (eVar 2))) aNil)))
 sNil)
def f_22 : Fn := ⟨3, b_rises⟩
def b_is_book : Sv :=
 (sSeq (sIf (tNot' (tOf (eIs .tup (eVar 0))))
 (sSeq (sRet (eC (.bl false)))
 sNil)
 sNil)
 (sSeq (sFor (gN 1) (iVal (eVar 0))
 (sSeq (sIf (tOr' (tNot' (tOf (eIs .tup (eVar 1)))) (tOr' (tOf (eBin dNe (eB bLen (aCons (eVar 1) aNil)) (eC (.int (2))))) (tOr' (tNot' (tOf (eCall 18 [] (aCons (eBin dSub' (eVar 1) (eC (.int (0)))) aNil)))) (tNot' (tOf (eCall 9 [] (aCons (eBin dSub' (eVar 1) (eC (.int (1)))) aNil)))))))
 (sSeq (sRet (eC (.bl false)))
 sNil)
 sNil)
 sNil))
 (sSeq (sRet (eCall 22 [] (aCons (eLc [1] (iVal (eVar 0)) (gN 1) tYesV (eBin dSub' (eVar 1) (eC (.int (0))))) aNil)))
 sNil)))
def f_23 : Fn := ⟨2, b_is_book⟩
def b_is_answer : Sv :=
 (sSeq (sRet (eOr (eBin dIs (eVar 0) (eC .non)) (eIs .int (eVar 0))))
 sNil)
def f_24 : Fn := ⟨1, b_is_answer⟩
def b_are_answers : Sv :=
 (sSeq (sIf (tNot' (tOf (eIs .tup (eVar 0))))
 (sSeq (sRet (eC (.bl false)))
 sNil)
 sNil)
 (sSeq (sFor (gN 1) (iVal (eVar 0))
 (sSeq (sIf (tOr' (tNot' (tOf (eIs .tup (eVar 1)))) (tOr' (tOf (eBin dNe (eB bLen (aCons (eVar 1) aNil)) (eC (.int (3))))) (tNot' (tOf (eCall 20 [] (aCons (eBin dSub' (eVar 1) (eC (.int (0)))) aNil))))))
 (sSeq (sRet (eC (.bl false)))
 sNil)
 sNil)
 (sSeq (sIf (tOr' (tNot' (tOf (eCallK 10 mg_10_least (aCons (eBin dSub' (eVar 1) (eC (.int (1)))) aNil) (aCons (eC (.int (1))) aNil)))) (tNot' (tOf (eCall 24 [] (aCons (eBin dSub' (eVar 1) (eC (.int (2)))) aNil)))))
 (sSeq (sRet (eC (.bl false)))
 sNil)
 sNil)
 sNil)))
 (sSeq (sRet (eCall 22 [] (aCons (eLc [1] (iVal (eVar 0)) (gN 1) tYesV (eBin dSub' (eVar 1) (eC (.int (0))))) aNil)))
 sNil)))
def f_25 : Fn := ⟨2, b_are_answers⟩
def b_is_state : Sv :=
 (sSeq (sIf (tOr' (tNot' (tOf (eIs .tup (eVar 0)))) (tOf (eBin dNe (eB bLen (aCons (eVar 0) aNil)) (eC (.int (3))))))
 (sSeq (sRet (eC (.bl false)))
 sNil)
 sNil)
 (sSeq (sRet (eAnd (eCall 23 [] (aCons (eBin dSub' (eVar 0) (eC (.int (0)))) aNil)) (eAnd (eCall 25 [] (aCons (eBin dSub' (eVar 0) (eC (.int (1)))) aNil)) (eCall 12 [] (aCons (eBin dSub' (eVar 0) (eC (.int (2)))) aNil)))))
 sNil))
def f_26 : Fn := ⟨1, b_is_state⟩
def b_look_at_state : Sv :=
 (sSeq (sIf (tNot' (tOf (eCall 26 [] (aCons (eVar 0) aNil))))
 (sSeq (sRaise 2)
 sNil)
 sNil)
 sNil)
def f_27 : Fn := ⟨1, b_look_at_state⟩
def b_show_deed : Sv :=
 (sSeq (sRet (eBM isStrD mJoin (eC (.str [32])) (aCons (eLc [1] (iVal (eVar 0)) (gN 1) tYesV (eB bStr (aCons (eVar 1) aNil))) aNil)))
 sNil)
def f_155 : Fn := ⟨2, b_show_deed⟩
def b_show_ask : Sv :=
 (sSeq (sIf (tOf (eBin dIs (eVar 0) (eC .non)))
 (sSeq (sRet (eC (.str [45])))
 sNil)
 sNil)
 (sSeq (sIf (tNot' (tOf (eCall 21 [] (aCons (eVar 0) aNil))))
 (sSeq (sRaise 6)
 sNil)
 sNil)
 (sSeq (sSet (gT [(gN 1), (gN 2), (gN 3)]) (eVar 0))
 (sSeq (sRet (eJoined [(eFmt (eVar 1)), (eC (.str [46])), (eFmt (eVar 2)), (eC (.str [32])), (eFmt (eCall 155 [] (aCons (eVar 3) aNil)))]))
 sNil))))
def f_156 : Fn := ⟨4, b_show_ask⟩
def b_show_row : Sv :=
 (sSeq (sRet (eBM isStrD mJoin (eC (.str [10])) (aCons (eLc [1, 2, 3] (iVal (eVar 0)) (gT [(gN 1), (gN 2), (gN 3)]) tYesV (eJoined [(eFmt (eVar 1)), (eC (.str [46])), (eFmt (eVar 2)), (eC (.str [32])), (eFmt (eCall 156 [] (aCons (eVar 3) aNil)))])) aNil)))
 sNil)
def f_157 : Fn := ⟨4, b_show_row⟩
def b_show_answer : Sv :=
 (sSeq (sIf (tOf (eBin dIs (eVar 0) (eC .non)))
 (sSeq (sRet (eC (.str [45])))
 sNil)
 sNil)
 (sSeq (sIf (tOf (eIs .bl (eVar 0)))
 (sSeq (sRet (eIf (tOf (eVar 0)) (eC (.str [121, 101, 115])) (eC (.str [110, 111]))))
 sNil)
 sNil)
 (sSeq (sRet (eB bStr (aCons (eVar 0) aNil)))
 sNil)))
def f_158 : Fn := ⟨1, b_show_answer⟩
def b_show_state : Sv :=
 (sSeq (sX (eCall 27 [] (aCons (eVar 0) aNil)))
 (sSeq (sSet (gT [(gN 1), (gN 2), (gN 3)]) (eVar 0))
 (sSeq (sSet (gN 4) (eLst (aCons (eBin dAdd (eLst (aCons (eC (.str [98, 111, 111, 107])) aNil)) (eLc [5, 6] (iVal (eVar 1)) (gT [(gN 5), (gN 6)]) tYesV (eJoined [(eFmt (eVar 5)), (eC (.str [61])), (eFmt (eVar 6))]))) aNil)))
 (sSeq (sX (eBM isLstD mAppend (eVar 4) (aCons (eBin dAdd (eLst (aCons (eC (.str [97, 110, 115, 119, 101, 114, 115])) aNil)) (eLc [7, 8, 9] (iVal (eVar 2)) (gT [(gN 7), (gN 8), (gN 9)]) tYesV (eJoined [(eFmt (eVar 7)), (eC (.str [46])), (eFmt (eVar 8)), (eC (.str [61])), (eFmt (eCall 158 [] (aCons (eVar 9) aNil)))]))) aNil)))
 (sSeq (sX (eBM isLstD mAppend (eVar 4) (aCons (eBin dAdd (eLst (aCons (eC (.str [109, 101, 109, 98, 101, 114, 115])) aNil)) (eLc [10] (iVal (eVar 3)) (gN 10) tYesV (eB bStr (aCons (eVar 10) aNil)))) aNil)))
 (sSeq (sRet (eBM isStrD mJoin (eC (.str [10])) (aCons (eLc [11] (iVal (eVar 4)) (gN 11) tYesV (eBM isStrD mJoin (eC (.str [32])) (aCons (eVar 11) aNil))) aNil)))
 sNil))))))
def f_159 : Fn := ⟨12, b_show_state⟩
def b_figures_in : Sv :=
 (sSeq (sIf (tOr' (tNot' (tOf (eChain dLe dLe (eC (.int (1))) (eB bLen (aCons (eVar 0) aNil)) (eC (.int (30)))))) (tNot' (tOf (eB bAll (aCons (eLc [1] (iVal (eVar 0)) (gN 1) tYesV (eBin dIn (eVar 1) (eC (.str [48, 49, 50, 51, 52, 53, 54, 55, 56, 57])))) aNil)))))
 (sSeq (sRet (eC .non))
 sNil)
 sNil)
 (sSeq (sRet (eIf (tAnd' (tOf (eBin dNe (eVar 0) (eC (.str [48])))) (tOf (eBM isStrD mStarts (eVar 0) (aCons (eC (.str [48])) aNil)))) (eC .non) (eB bInt (aCons (eVar 0) aNil))))
 sNil))
def f_160 : Fn := ⟨2, b_figures_in⟩
def b_number_in : Sv :=
 (sSeq (sIf (tNot' (tOf (eBM isStrD mStarts (eVar 0) (aCons (eC (.str [45])) aNil))))
 (sSeq (sRet (eCall 160 [] (aCons (eVar 0) aNil)))
 sNil)
 sNil)
 (sSeq (sSet (gN 1) (eCall 160 [] (aCons (eSl (eVar 0) (oPart (eC (.int (1)))) oNo) aNil)))
 (sSeq (sRet (eIf (tOr' (tOf (eBin dIs (eVar 1) (eC .non))) (tOf (eBin dEq (eVar 1) (eC (.int (0)))))) (eC .non) (eBin dSub (eC (.int (0))) (eVar 1))))
 sNil)))
def f_161 : Fn := ⟨2, b_number_in⟩
def b_two_in : Sv :=
 (sSeq (sSet (gT [(gN 1), (gN 2), (gN 3)]) (eBM isStrD mPart (eVar 0) (aCons (eC (.str [46])) aNil)))
 (sSeq (sRet (eTup (aCons (eCall 160 [] (aCons (eVar 1) aNil)) (aCons (eCall 160 [] (aCons (eVar 3) aNil)) aNil))))
 sNil))
def f_162 : Fn := ⟨4, b_two_in⟩
def b_answer_in : Sv :=
 (sSeq (sIf (tOf (eBin (kdIn 201 kv_201) (eVar 0) (eC (.fnr 201))))
 (sSeq (sRet (eLst (aCons (eBin (kdGet 201 kv_201) (eC (.fnr 201)) (eVar 0)) aNil)))
 sNil)
 sNil)
 (sSeq (sSet (gN 1) (eCall 161 [] (aCons (eVar 0) aNil)))
 (sSeq (sRet (eIf (tOf (eBin dIs (eVar 1) (eC .non))) (eLst aNil) (eLst (aCons (eVar 1) aNil))))
 sNil)))
def f_163 : Fn := ⟨2, b_answer_in⟩
def b_deed_in : Sv :=
 (sSeq (sSet (gStar [(gN 1)] (gN 2)) (eVar 0))
 (sSeq (sSet (gN 3) (eLc [4] (iVal (eVar 2)) (gN 4) tYesV (eCall 161 [] (aCons (eVar 4) aNil))))
 (sSeq (sIf (tAnd' (tOf (eBin dIn (eVar 1) (eTup (aCons (eC (.str [112, 117, 116])) (aCons (eC (.str [97, 100, 100])) (aCons (eC (.str [100, 114, 111, 112])) aNil)))))) (tOf (eBin dNe (eVar 2) (eLst aNil))))
 (sSeq (sSet (gN 5) (eBin dAdd (eTup (aCons (eVar 1) (aCons (eBin dSub' (eVar 2) (eC (.int (0)))) aNil))) (eB bTup (aCons (eSl (eVar 3) (oPart (eC (.int (1)))) oNo) aNil))))
 sNil)
 (sSeq (sSet (gN 5) (eBin dAdd (eTup (aCons (eVar 1) aNil)) (eB bTup (aCons (eVar 3) aNil))))
 sNil))
 (sSeq (sRet (eIf (tOf (eCall 19 [] (aCons (eVar 5) aNil))) (eVar 5) (eC .non)))
 sNil))))
def f_164 : Fn := ⟨6, b_deed_in⟩
def b_ask_in : Sv :=
 (sSeq (sIf (tOf (eBin dEq (eVar 0) (eC (.str [45]))))
 (sSeq (sRet (eLst (aCons (eC .non) aNil)))
 sNil)
 sNil)
 (sSeq (sSet (gStar [(gN 1)] (gN 2)) (eBM isStrD mSplit (eVar 0) (aCons (eC (.str [32])) aNil)))
 (sSeq (sIf (tOf (eBin dEq (eVar 2) (eLst aNil)))
 (sSeq (sRet (eLst aNil))
 sNil)
 sNil)
 (sSeq (sSet (gN 3) (eBin dAdd (eCall 162 [] (aCons (eVar 1) aNil)) (eTup (aCons (eCall 164 [] (aCons (eVar 2) aNil)) aNil))))
 (sSeq (sRet (eIf (tOf (eCall 21 [] (aCons (eVar 3) aNil))) (eLst (aCons (eVar 3) aNil)) (eLst aNil)))
 sNil)))))
def f_165 : Fn := ⟨4, b_ask_in⟩
def b_read_ask : Sv :=
 (sSeq (sSet (gN 1) (eIf (tOf (eIs .str (eVar 0))) (eCall 165 [] (aCons (eVar 0) aNil)) (eLst aNil)))
 (sSeq (sIf (tOf (eBin dEq (eVar 1) (eLst aNil)))
 (sSeq sNo
 sNil)
 sNil)
 (sSeq (sRet (eBin dSub' (eVar 1) (eC (.int (0)))))
 sNil)))
def f_166 : Fn := ⟨2, b_read_ask⟩
def b_deed_of_row : Sv :=
 (sSeq (sSet (gT [(gN 1), (gN 2), (gN 3)]) (eBM isStrD mPart (eVar 0) (aCons (eC (.str [32])) aNil)))
 (sSeq (sSet (gT [(gN 4), (gN 5)]) (eCall 162 [] (aCons (eVar 1) aNil)))
 (sSeq (sSet (gN 6) (eCall 165 [] (aCons (eVar 3) aNil)))
 (sSeq (sIf (tOr' (tNot' (tOf (eCall 10 [(.int (0)), (.int (1000000000))] (aCons (eVar 4) aNil)))) (tOr' (tNot' (tOf (eCallK 10 mg_10_most (aCons (eVar 5) aNil) (aCons (eC (.int (29))) aNil)))) (tOf (eBin dEq (eVar 6) (eLst aNil)))))
 (sSeq (sRet (eC .non))
 sNil)
 sNil)
 (sSeq (sRet (eTup (aCons (eVar 4) (aCons (eVar 5) (aCons (eBin dSub' (eVar 6) (eC (.int (0)))) aNil)))))
 sNil)))))
def f_167 : Fn := ⟨7, b_deed_of_row⟩
def b_read_row : Sv :=
 (sSeq (sIf (tNot' (tOf (eIs .str (eVar 0))))
 (sSeq sNo
 sNil)
 sNil)
 (sSeq (sSet (gN 1) (eLst aNil))
 (sSeq (sSet (gN 2) (eIf (tOf (eBin dNe (eVar 0) (eC (.str [])))) (eBM isStrD mSplit (eVar 0) (aCons (eC (.str [10])) aNil)) (eLst aNil)))
 (sSeq (sFor (gT [(gN 3), (gN 4)]) (iEnm (aCons (eVar 2) aNil))
 (sSeq (sSet (gN 5) (eCall 167 [] (aCons (eVar 4) aNil)))
 (sSeq (sIf (tOr' (tOf (eBin dIs (eVar 5) (eC .non))) (tAnd' (tOf (eBin dNe (eVar 1) (eLst aNil))) (tOf (eBin dLeT (eSl (eVar 5) oNo (oPart (eC (.int (2))))) (eSl (eBin dSub' (eVar 1) (eNeg (eC (.int (1))))) oNo (oPart (eC (.int (2)))))))))
 (sSeq sNo
 sNil)
 sNil)
 (sSeq (sX (eBM isLstD mAppend (eVar 1) (aCons (eVar 5) aNil)))
 sNil))))
 (sSeq (sRet (eVar 1))
 sNil)))))
def f_168 : Fn := ⟨6, b_read_row⟩
def b_entry_in : Sv :=
 (sSeq (sSet (gT [(gN 1), (gN 2), (gN 3)]) (eBM isStrD mPart (eVar 0) (aCons (eC (.str [61])) aNil)))
 (sSeq (sRet (eTup (aCons (eVar 1) (aCons (eCall 161 [] (aCons (eVar 3) aNil)) aNil))))
 sNil))
def f_169 : Fn := ⟨4, b_entry_in⟩
def b_answer_entry_in : Sv :=
 (sSeq (sSet (gT [(gN 1), (gN 2), (gN 3)]) (eBM isStrD mPart (eVar 0) (aCons (eC (.str [61])) aNil)))
 (sSeq (sSet (gN 4) (eCall 163 [] (aCons (eVar 3) aNil)))
 (sSeq (sRet (eBin dAdd (eCall 162 [] (aCons (eVar 1) aNil)) (eB bTup (aCons (eVar 4) aNil))))
 sNil)))
def f_170 : Fn := ⟨5, b_answer_entry_in⟩
def b_book_in : Sv :=
 (sSeq (sSet (gN 1) (eB bTup (aCons (eLc [2] (iVal (eVar 0)) (gN 2) tYesV (eCall 169 [] (aCons (eVar 2) aNil))) aNil)))
 (sSeq (sRet (eIf (tOf (eCall 23 [] (aCons (eVar 1) aNil))) (eVar 1) (eC .non)))
 sNil))
def f_171 : Fn := ⟨3, b_book_in⟩
def b_answers_in : Sv :=
 (sSeq (sSet (gN 1) (eB bTup (aCons (eLc [2] (iVal (eVar 0)) (gN 2) tYesV (eCall 170 [] (aCons (eVar 2) aNil))) aNil)))
 (sSeq (sRet (eIf (tOf (eCall 25 [] (aCons (eVar 1) aNil))) (eVar 1) (eC .non)))
 sNil))
def f_172 : Fn := ⟨3, b_answers_in⟩
def b_members_in : Sv :=
 (sSeq (sSet (gN 1) (eB bTup (aCons (eLc [2] (iVal (eVar 0)) (gN 2) tYesV (eCall 160 [] (aCons (eVar 2) aNil))) aNil)))
 (sSeq (sRet (eIf (tOf (eCall 12 [] (aCons (eVar 1) aNil))) (eVar 1) (eC .non)))
 sNil))
def f_173 : Fn := ⟨3, b_members_in⟩
def b_read_state : Sv :=
 (sSeq (sIf (tNot' (tOf (eIs .str (eVar 0))))
 (sSeq sNo
 sNil)
 sNil)
 (sSeq (sSet (gN 1) (eLst aNil))
 (sSeq (sSet (gN 2) (eDis [((eC (.str [98, 111, 111, 107])), (eC (.fnr 171))), ((eC (.str [97, 110, 115, 119, 101, 114, 115])), (eC (.fnr 172))), ((eC (.str [109, 101, 109, 98, 101, 114, 115])), (eC (.fnr 173)))]))
 (sSeq (sSet (gN 3) (eBM isStrD mSplit (eVar 0) (aCons (eC (.str [10])) aNil)))
 (sSeq (sFor (gT [(gN 4), (gN 5)]) (iEnm (aCons (eVar 3) aNil))
 (sSeq (sSet (gStar [(gN 7)] (gN 8)) (eBM isStrD mSplit (eVar 5) (aCons (eC (.str [32])) aNil)))
 (sSeq (sIf (tOr' (tOf (eBin dGt (eVar 4) (eC (.int (2))))) (tOf (eBin dNe (eVar 7) (eBin dSub' (eTup (aCons (eC (.str [98, 111, 111, 107])) (aCons (eC (.str [97, 110, 115, 119, 101, 114, 115])) (aCons (eC (.str [109, 101, 109, 98, 101, 114, 115])) aNil)))) (eVar 4)))))
 (sSeq sNo
 sNil)
 sNil)
 (sSeq (sSet (gN 6) (eCallV [171, 172, 173] (eBin dSub' (eVar 2) (eVar 7)) (aCons (eVar 8) aNil)))
 (sSeq (sIf (tOf (eBin dIs (eVar 6) (eC .non)))
 (sSeq sNo
 sNil)
 sNil)
 (sSeq (sX (eBM isLstD mAppend (eVar 1) (aCons (eVar 6) aNil)))
 sNil))))))
 (sSeq (sIf (tOf (eBin dLt (eB bLen (aCons (eVar 1) aNil)) (eC (.int (3)))))
 (sSeq sNo
 sNil)
 sNil)
 (sSeq (sRet (eB bTup (aCons (eVar 1) aNil)))
 sNil)))))))
def f_174 : Fn := ⟨9, b_read_state⟩
def b__law_digits : Sv :=
 (sSeq (sSet (gN 3) (eB bAbs (aCons (eVar 0) aNil)))
 (sSeq (sSet (gN 4) (eBin dGe (eVar 3) (eBin dPow (eC (.int (10))) (eC (.int (18))))))
 (sSeq (sSet (gN 5) (eBin dAdd (eBin dMod (eVar 3) (eC (.int (2147483647)))) (eBin dMul (eC (.int (7919))) (eVar 1))))
 (sSeq (sSet (gN 6) (eLst aNil))
 (sSeq (sFor (gT [(gN 7), (gN 8)]) (iEnm (aCons (eVar 2) aNil))
 (sSeq (sIf (tAnd' (tOf (eVar 4)) (tOf (eBin dGt (eVar 3) (eC (.int (0))))))
 (sSeq (sX (eBM isLstD mAppend (eVar 6) (aCons (eBin dMod (eVar 3) (eVar 8)) aNil)))
 (sSeq (sSet (gN 3) (eBin dDiv (eVar 3) (eVar 8)))
 sNil))
 (sSeq (sSet (gN 5) (eBin dMod (eBin dPow (eBin dAdd (eVar 5) (eBin dMul (eC (.int (104729))) (eBin dAdd (eVar 7) (eC (.int (1)))))) (eC (.int (2)))) (eC (.int (2147483587)))))
 (sSeq (sX (eBM isLstD mAppend (eVar 6) (aCons (eBin dMod (eBin dDiv (eVar 5) (eC (.int (16)))) (eVar 8)) aNil)))
 sNil)))
 sNil))
 (sSeq (sRet (eVar 6))
 sNil))))))
def f_301 : Fn := ⟨9, b__law_digits⟩
def b__law_deed : Sv :=
 (sSeq (sSet (gN 1) (eBin dSub' (eLst (aCons (eC (.str [97])) (aCons (eC (.str [98])) (aCons (eC (.str [98, 111, 111, 107])) (aCons (eC (.str [122, 122, 122, 122, 122, 122, 122, 122])) aNil))))) (eBin dMod (eBin dSub' (eVar 0) (eC (.int (0)))) (eC (.int (4))))))
 (sSeq (sSet (gN 2) (eBin dSub' (eLst (aCons (eC (.int (0))) (aCons (eC (.int (1))) (aCons (eNeg (eC (.int (1)))) (aCons (eC (.int (7))) (aCons (eC (.int (12))) (aCons (eBin dPow (eC (.int (10))) (eC (.int (12)))) (aCons (eNeg (eBin dPow (eC (.int (10))) (eC (.int (12))))) aNil)))))))) (eBin dMod (eBin dSub' (eVar 0) (eC (.int (1)))) (eC (.int (7))))))
 (sSeq (sSet (gN 3) (eBin dSub' (eLst (aCons (eC (.str [112, 117, 116])) (aCons (eC (.str [97, 100, 100])) (aCons (eC (.str [97, 100, 100])) (aCons (eC (.str [100, 114, 111, 112])) aNil))))) (eBin dMod (eBin dSub' (eVar 0) (eC (.int (2)))) (eC (.int (4))))))
 (sSeq (sIf (tOf (eBin dEq (eVar 3) (eC (.str [100, 114, 111, 112]))))
 (sSeq (sRet (eTup (aCons (eVar 3) (aCons (eVar 1) aNil))))
 sNil)
 sNil)
 (sSeq (sRet (eTup (aCons (eVar 3) (aCons (eVar 1) (aCons (eVar 2) aNil)))))
 sNil)))))
def f_302 : Fn := ⟨4, b__law_deed⟩
def b__law_ask_of : Sv :=
 (sSeq (sSet (gN 1) (eCall 302 [] (aCons (eVar 0) aNil)))
 (sSeq (sIf (tOf (eBin dEq (eBin dSub' (eVar 0) (eC (.int (3)))) (eC (.int (0)))))
 (sSeq (sSet (gN 1) (eTup (aCons (eC (.str [115, 119, 97, 112])) (aCons (eBin dSub' (eVar 0) (eC (.int (1)))) (aCons (eBin dAdd (eC (.int (10))) (eBin dSub' (eVar 0) (eC (.int (2))))) aNil)))))
 sNil)
 sNil)
 (sSeq (sRet (eTup (aCons (eBin dSub' (eVar 0) (eC (.int (4)))) (aCons (eBin dSub' (eLst (aCons (eC (.int (1))) (aCons (eC (.int (2))) (aCons (eBin dPow (eC (.int (10))) (eC (.int (9)))) aNil)))) (eBin dMod (eBin dSub' (eVar 0) (eC (.int (3)))) (eC (.int (3))))) (aCons (eVar 1) aNil)))))
 sNil)))
def f_303 : Fn := ⟨2, b__law_ask_of⟩
def b__law_ask_text : Sv :=
 (sSeq (sIf (tOf (eBin dIs (eVar 0) (eC .non)))
 (sSeq (sRet (eC (.str [45])))
 sNil)
 sNil)
 (sSeq (sRet (eBin dAdd (eBin dAdd (eBin dAdd (eBin dAdd (eB bStr (aCons (eBin dSub' (eVar 0) (eC (.int (0)))) aNil)) (eC (.str [46]))) (eB bStr (aCons (eBin dSub' (eVar 0) (eC (.int (1)))) aNil))) (eC (.str [32]))) (eBM isStrD mJoin (eC (.str [32])) (aCons (eLc [1] (iVal (eBin dSub' (eVar 0) (eC (.int (2))))) (gN 1) tYesV (eB bStr (aCons (eVar 1) aNil))) aNil))))
 sNil))
def f_304 : Fn := ⟨2, b__law_ask_text⟩
def b__law_row_text : Sv :=
 (sSeq (sRet (eBM isStrD mJoin (eC (.str [10])) (aCons (eLc [1, 2, 3] (iVal (eVar 0)) (gT [(gN 1), (gN 2), (gN 3)]) tYesV (eBin dAdd (eBin dAdd (eBin dAdd (eBin dAdd (eB bStr (aCons (eVar 1) aNil)) (eC (.str [46]))) (eB bStr (aCons (eVar 2) aNil))) (eC (.str [32]))) (eCall 304 [] (aCons (eVar 3) aNil)))) aNil)))
 sNil)
def f_305 : Fn := ⟨4, b__law_row_text⟩
def b__law_word : Sv :=
 (sSeq (sIf (tOf (eBin dIs (eVar 0) (eC .non)))
 (sSeq (sRet (eC (.str [45])))
 sNil)
 sNil)
 (sSeq (sIf (tOf (eIs .bl (eVar 0)))
 (sSeq (sRet (eBin dSub' (eLst (aCons (eC (.str [110, 111])) (aCons (eC (.str [121, 101, 115])) aNil))) (eB bInt (aCons (eVar 0) aNil))))
 sNil)
 sNil)
 (sSeq (sRet (eB bStr (aCons (eVar 0) aNil)))
 sNil)))
def f_306 : Fn := ⟨1, b__law_word⟩
def b__law_state_text : Sv :=
 (sSeq (sSet (gN 1) (eLst (aCons (eC (.str [98, 111, 111, 107])) (aCons (eC (.str [97, 110, 115, 119, 101, 114, 115])) (aCons (eC (.str [109, 101, 109, 98, 101, 114, 115])) aNil)))))
 (sSeq (sFor (gT [(gN 2), (gN 3)]) (iVal (eBin dSub' (eVar 0) (eC (.int (0)))))
 (sSeq (sPutL (eVar 1) (eC (.int (0))) (eBin dAdd (eBin dAdd (eBin dAdd (eBin dAdd (eBin dSub' (eVar 1) (eC (.int (0)))) (eC (.str [32]))) (eVar 2)) (eC (.str [61]))) (eB bStr (aCons (eVar 3) aNil))))
 sNil))
 (sSeq (sFor (gT [(gN 4), (gN 5), (gN 6)]) (iVal (eBin dSub' (eVar 0) (eC (.int (1)))))
 (sSeq (sPutL (eVar 1) (eC (.int (1))) (eBin dAdd (eBin dAdd (eBin dAdd (eBin dAdd (eBin dAdd (eBin dAdd (eBin dSub' (eVar 1) (eC (.int (1)))) (eC (.str [32]))) (eB bStr (aCons (eVar 4) aNil))) (eC (.str [46]))) (eB bStr (aCons (eVar 5) aNil))) (eC (.str [61]))) (eCall 306 [] (aCons (eVar 6) aNil))))
 sNil))
 (sSeq (sFor (gN 7) (iVal (eBin dSub' (eVar 0) (eC (.int (2)))))
 (sSeq (sPutL (eVar 1) (eC (.int (2))) (eBin dAdd (eBin dAdd (eBin dSub' (eVar 1) (eC (.int (2)))) (eC (.str [32]))) (eB bStr (aCons (eVar 7) aNil))))
 sNil))
 (sSeq (sRet (eBM isStrD mJoin (eC (.str [10])) (aCons (eVar 1) aNil)))
 sNil)))))
def f_307 : Fn := ⟨8, b__law_state_text⟩
def b__law_row : Sv :=
 (sSeq (sSet (gN 1) (eC (.int (0))))
 (sSeq (sSet (gN 2) (eNeg (eC (.int (1)))))
 (sSeq (sSet (gN 3) (eLst aNil))
 (sSeq (sFor (gN 4) (iRange (aCons (eBin dSub' (eVar 0) (eC (.int (0)))) aNil))
 (sSeq (sSet (gN 5) (eSl (eVar 0) (oPart (eBin dAdd (eC (.int (1))) (eBin dMul (eC (.int (6))) (eVar 4)))) (oPart (eBin dAdd (eC (.int (7))) (eBin dMul (eC (.int (6))) (eVar 4))))))
 (sSeq (sIf (tOr' (tOf (eBin dEq (eBin dSub' (eVar 5) (eC (.int (5)))) (eC (.int (0))))) (tOf (eBin dEq (eVar 2) (eC (.int (29))))))
 (sSeq (sSet (gN 1) (eBin dAdd (eBin dAdd (eVar 1) (eC (.int (1)))) (eBin dSub' (eVar 5) (eC (.int (1))))))
 (sSeq (sSet (gN 2) (eC (.int (0))))
 sNil))
 (sSeq (sSet (gN 2) (eB bMin2 (aCons (eC (.int (29))) (aCons (eBin dAdd (eVar 2) (eBin dSub' (eLst (aCons (eC (.int (1))) (aCons (eC (.int (1))) (aCons (eC (.int (2))) (aCons (eC (.int (7))) aNil))))) (eBin dSub' (eVar 5) (eC (.int (2)))))) aNil))))
 sNil))
 (sSeq (sX (eBM isLstD mAppend (eVar 3) (aCons (eTup (aCons (eVar 1) (aCons (eVar 2) (aCons (eBin dSub' (eLst (aCons (eCall 303 [] (aCons (eVar 5) aNil)) (aCons (eC .non) aNil))) (eB bInt (aCons (eBin dEq (eBin dSub' (eVar 5) (eC (.int (5)))) (eC (.int (1)))) aNil))) aNil)))) aNil)))
 sNil))))
 (sSeq (sRet (eVar 3))
 sNil)))))
def f_308 : Fn := ⟨6, b__law_row⟩
def b__law_state : Sv :=
 (sSeq (sSet (gN 1) (eLst aNil))
 (sSeq (sFor (gT [(gN 2), (gN 3)]) (iEnm (aCons (eSl (eLst (aCons (eC (.str [97])) (aCons (eC (.str [97, 98])) (aCons (eC (.str [98])) (aCons (eC (.str [122, 122, 122, 122, 122, 122, 122, 122])) aNil))))) oNo (oPart (eBin dSub' (eVar 0) (eC (.int (0)))))) aNil))
 (sSeq (sX (eBM isLstD mAppend (eVar 1) (aCons (eTup (aCons (eVar 3) (aCons (eBin dSub' (eLst (aCons (eC (.int (0))) (aCons (eNeg (eC (.int (1)))) (aCons (eBin dPow (eC (.int (10))) (eC (.int (29)))) (aCons (eBin dSub (eC (.int (1))) (eBin dPow (eC (.int (10))) (eC (.int (30))))) aNil))))) (eBin dSub' (eVar 0) (eBin dAdd (eC (.int (3))) (eVar 2)))) aNil))) aNil)))
 sNil))
 (sSeq (sSet (gN 4) (eLst aNil))
 (sSeq (sFor (gN 2) (iRange (aCons (eBin dSub' (eVar 0) (eC (.int (1)))) aNil))
 (sSeq (sX (eBM isLstD mAppend (eVar 4) (aCons (eTup (aCons (eBin dAdd (eBin dMul (eC (.int (2))) (eVar 2)) (eBin dMod (eBin dSub' (eVar 0) (eC (.int (7)))) (eC (.int (2))))) (aCons (eBin dAdd (eC (.int (1))) (eBin dSub' (eVar 0) (eC (.int (7))))) (aCons (eBin dSub' (eLst (aCons (eC .non) (aCons (eC (.bl true)) (aCons (eC (.bl false)) (aCons (eC (.int (0))) (aCons (eC (.int (1))) (aCons (eNeg (eC (.int (7)))) (aCons (eBin dPow (eC (.int (10))) (eC (.int (13)))) aNil)))))))) (eBin dSub' (eVar 0) (eBin dAdd (eC (.int (8))) (eVar 2)))) aNil)))) aNil)))
 sNil))
 (sSeq (sSet (gN 5) (eLst aNil))
 (sSeq (sFor (gN 2) (iRange (aCons (eBin dAdd (eC (.int (1))) (eBin dSub' (eVar 0) (eC (.int (2))))) aNil))
 (sSeq (sX (eBM isLstD mInsert (eVar 5) (aCons (eBin dMod (eBin dSub' (eVar 0) (eC (.int (12)))) (eBin dAdd (eVar 2) (eC (.int (1))))) (aCons (eBin dMod (eBin dAdd (eBin dMul (eC (.int (7))) (eVar 2)) (eBin dSub' (eVar 0) (eC (.int (13))))) (eC (.int (31)))) aNil))))
 sNil))
 (sSeq (sRet (eTup (aCons (eB bTup (aCons (eVar 1) aNil)) (aCons (eB bTup (aCons (eVar 4) aNil)) (aCons (eB bTup (aCons (eVar 5) aNil)) aNil)))))
 sNil)))))))
def f_309 : Fn := ⟨6, b__law_state⟩
def b__law_refused : Sv :=
 (sSeq (sSet (gN 1) (eLst aNil))
 (sSeq (sFor (gN 2) (iRange (aCons (eC (.int (3))) aNil))
 (sSeq (sSet (gN 3) (eC .non))
 (sSeq (sKeep mt_HeadError 4 3 (sSeq (sIf (tOf (eBin dEq (eVar 2) (eC (.int (0)))))
 (sSeq (sX (eCall 156 [] (aCons (eVar 0) aNil)))
 sNil)
 (sSeq (sIf (tOf (eBin dEq (eVar 2) (eC (.int (1)))))
 (sSeq (sX (eCall 159 [] (aCons (eVar 0) aNil)))
 sNil)
 (sSeq (sX (eCall 157 [] (aCons (eLst (aCons (eTup (aCons (eC (.int (0))) (aCons (eC (.int (0))) (aCons (eVar 0) aNil)))) aNil)) aNil)))
 sNil))
 sNil))
 sNil))
 (sSeq (sX (eBM isLstD mAppend (eVar 1) (aCons (eLst (aCons (eIsE it_NoAsk (eVar 3)) (aCons (eIsE it_NoState (eVar 3)) aNil))) aNil)))
 sNil))))
 (sSeq (sRet (eBin dEq (eVar 1) (eLst (aCons (eLst (aCons (eC (.bl true)) (aCons (eC (.bl false)) aNil))) (aCons (eLst (aCons (eC (.bl false)) (aCons (eC (.bl true)) aNil))) (aCons (eLst (aCons (eC (.bl true)) (aCons (eC (.bl false)) aNil))) aNil))))))
 sNil)))
def f_310 : Fn := ⟨5, b__law_refused⟩
def b__law_right : Sv :=
 (sSeq (sSet (gN 3) (eCall 304 [] (aCons (eVar 0) aNil)))
 (sSeq (sIf (tOr' (tOf (eBin dNe (eCall 156 [] (aCons (eVar 0) aNil)) (eVar 3))) (tOf (eBin dNe (eB bRepr (aCons (eCall 166 [] (aCons (eVar 3) aNil)) aNil)) (eB bRepr (aCons (eVar 0) aNil)))))
 (sSeq (sRet (eC (.bl false)))
 sNil)
 sNil)
 (sSeq (sSet (gN 3) (eCall 305 [] (aCons (eVar 1) aNil)))
 (sSeq (sIf (tOf (eBin dNe (eCall 157 [] (aCons (eVar 1) aNil)) (eVar 3)))
 (sSeq (sRet (eC (.bl false)))
 sNil)
 sNil)
 (sSeq (sFor (gN 4) (iRange (aCons (eC (.int (2))) aNil))
 (sSeq (sSet (gN 5) (eCall 168 [] (aCons (eVar 3) aNil)))
 (sSeq (sIf (tOf (eBin dNe (eB bRepr (aCons (eVar 5) aNil)) (eB bRepr (aCons (eVar 1) aNil))))
 (sSeq (sRet (eC (.bl false)))
 sNil)
 sNil)
 (sSeq (sX (eBM isLstD mAppend (eVar 5) (aCons (eC .non) aNil)))
 sNil))))
 (sSeq (sSet (gN 3) (eCall 307 [] (aCons (eVar 2) aNil)))
 (sSeq (sRet (eAnd (eBin dEq (eCall 159 [] (aCons (eVar 2) aNil)) (eVar 3)) (eBin dEq (eB bRepr (aCons (eCall 174 [] (aCons (eVar 3) aNil)) aNil)) (eB bRepr (aCons (eVar 2) aNil)))))
 sNil)))))))
def f_311 : Fn := ⟨6, b__law_right⟩
def b__law_signs_right : Sv :=
 (sSeq (sSet (gN 0) (eLst aNil))
 (sSeq (sSet (gN 1) (eLst aNil))
 (sSeq (sFor (gT [(gN 2), (gN 3)]) (iEnmS (aCons (eC (.str [97, 98, 99, 100, 101, 102, 103, 104, 105, 106, 107, 108, 109, 110, 111, 112, 113, 114, 115, 116, 117, 118, 119, 120, 121, 122])) aNil))
 (sSeq (sSet (gN 4) (eBin dMulS (eVar 3) (eBin dAdd (eC (.int (1))) (eBin dMod (eVar 2) (eC (.int (8)))))))
 (sSeq (sSet (gN 5) (eTup (aCons (eBin dMod (eVar 2) (eC (.int (10)))) (aCons (eBin dAdd (eC (.int (1))) (eVar 2)) (aCons (eTup (aCons (eC (.str [112, 117, 116])) (aCons (eVar 4) (aCons (eVar 2) aNil)))) aNil)))))
 (sSeq (sIf (tOr' (tOf (eBin dNe (eCall 166 [] (aCons (eCall 156 [] (aCons (eVar 5) aNil)) aNil)) (eVar 5))) (tOf (eBin dNe (eCall 156 [] (aCons (eVar 5) aNil)) (eCall 304 [] (aCons (eVar 5) aNil)))))
 (sSeq (sRet (eC (.bl false)))
 sNil)
 sNil)
 (sSeq (sX (eBM isLstD mAppend (eVar 0) (aCons (eTup (aCons (eBin dAdd (eBin dSub (eBin dPow (eC (.int (10))) (eC (.int (9)))) (eC (.int (26)))) (eVar 2)) (aCons (eVar 2) (aCons (eVar 5) aNil)))) aNil)))
 (sSeq (sX (eBM isLstD mAppend (eVar 1) (aCons (eTup (aCons (eVar 4) (aCons (eBin dSub (eC (.int (0))) (eVar 2)) aNil))) aNil)))
 sNil))))))
 (sSeq (sX (eBM isLstD mAppend (eVar 0) (aCons (eTup (aCons (eBin dPow (eC (.int (10))) (eC (.int (9)))) (aCons (eC (.int (29))) (aCons (eC .non) aNil)))) aNil)))
 (sSeq (sSet (gN 6) (eB bTup (aCons (eLc [7] (iRange (aCons (eC (.int (10))) aNil)) (gN 7) tYesV (eTup (aCons (eVar 7) (aCons (eBin dAdd (eC (.int (1))) (eVar 7)) (aCons (eBin dSub' (eLst (aCons (eC .non) (aCons (eC (.bl true)) (aCons (eC (.bl false)) (aCons (eC (.int (0))) (aCons (eC (.int (1))) aNil)))))) (eBin dMod (eVar 7) (eC (.int (5))))) aNil))))) aNil)))
 (sSeq (sRet (eCall 311 [] (aCons (eC .non) (aCons (eVar 0) (aCons (eTup (aCons (eB bTup (aCons (eVar 1) aNil)) (aCons (eVar 6) (aCons (eTup (aCons (eC (.int (30))) (aCons (eC (.int (0))) (aCons (eC (.int (29))) aNil)))) aNil)))) aNil)))))
 sNil))))))
def f_312 : Fn := ⟨8, b__law_signs_right⟩
def b_law : Sv :=
 (sSeq (sFor (gT [(gN 1), (gN 2)]) (iEnm (aCons (eSl (eBin dCatL (eVar 0) (eLst (aCons (eC (.int (1))) aNil))) oNo (oPart (eC (.int (10))))) aNil))
 (sSeq (sSet (gN 3) (eCall 301 [] (aCons (eVar 2) (aCons (eVar 1) (aCons (eBin dAdd (eBin dAdd (eLst (aCons (eC (.int (4))) (aCons (eC (.int (7))) (aCons (eC (.int (4))) (aCons (eC (.int (4))) (aCons (eC (.int (10))) (aCons (eC (.int (2))) aNil))))))) (eLst (aCons (eC (.int (9))) aNil))) (eBin dMul (eLst (aCons (eC (.int (4))) (aCons (eC (.int (7))) (aCons (eC (.int (4))) (aCons (eC (.int (4))) (aCons (eC (.int (10))) (aCons (eC (.int (5))) aNil))))))) (eC (.int (8))))) aNil)))))
 (sSeq (sSet (gN 4) (eCall 301 [] (aCons (eVar 2) (aCons (eBin dAdd (eVar 1) (eC (.int (50)))) (aCons (eLst (aCons (eC (.int (5))) (aCons (eC (.int (5))) (aCons (eC (.int (7))) (aCons (eC (.int (4))) (aCons (eC (.int (4))) (aCons (eC (.int (4))) (aCons (eC (.int (4))) (aCons (eC (.int (9))) (aCons (eC (.int (7))) (aCons (eC (.int (7))) (aCons (eC (.int (7))) (aCons (eC (.int (7))) (aCons (eC (.int (5))) (aCons (eC (.int (31))) aNil))))))))))))))) aNil)))))
 (sSeq (sIf (tNot' (tOf (eCall 311 [] (aCons (eCall 303 [] (aCons (eVar 3) aNil)) (aCons (eCall 308 [] (aCons (eSl (eVar 3) (oPart (eC (.int (6)))) oNo) aNil)) (aCons (eCall 309 [] (aCons (eVar 4) aNil)) aNil))))))
 (sSeq (sRet (eC (.bl false)))
 sNil)
 sNil)
 sNil))))
 (sSeq (sFor (gN 5) (iVal (eLst (aCons (eTup aNil) (aCons (eC (.int (5))) (aCons (eC (.str [45])) (aCons (eTup (aCons (eC (.int (0))) (aCons (eC (.int (0))) (aCons (eTup (aCons (eC (.str [100, 114, 111, 112])) (aCons (eC (.str [97])) aNil))) aNil)))) (aCons (eTup (aCons (eC (.int (0))) (aCons (eC (.int (1))) (aCons (eTup (aCons (eC (.str [100, 114, 111, 112])) aNil)) aNil)))) (aCons (eLst (aCons (eC (.int (0))) (aCons (eC (.int (1))) (aCons (eTup (aCons (eC (.str [100, 114, 111, 112])) (aCons (eC (.str [97])) aNil))) aNil)))) (aCons (eC (.bl true)) (aCons eDnew (aCons (eTup (aCons (eTup aNil) (aCons (eTup aNil) aNil))) aNil)))))))))))
 (sSeq (sIf (tNot' (tOf (eCall 310 [] (aCons (eVar 5) aNil))))
 (sSeq (sRet (eC (.bl false)))
 sNil)
 sNil)
 sNil))
 (sSeq (sIf (tNot' (tOf (eCall 312 [] aNil)))
 (sSeq (sRet (eC (.bl false)))
 sNil)
 sNil)
 (sSeq (sRet (eAnd (eBin dEq (eCall 168 [] (aCons (eC (.str [])) aNil)) (eLst aNil)) (eAnd (eBin dEq (eCall 157 [] (aCons (eLst aNil) aNil)) (eC (.str []))) (eAnd (eBin dIs (eCall 166 [] (aCons (eC (.str [45])) aNil)) (eC .non)) (eBin dEq (eCall 156 [] (aCons (eC .non) aNil)) (eC (.str [45])))))))
 sNil))))
def f_313 : Fn := ⟨6, b_law⟩
def tab : Nat → Option Fn
  | 9 => some f_9
  | 10 => some f_10
  | 11 => some f_11
  | 12 => some f_12
  | 18 => some f_18
  | 19 => some f_19
  | 20 => some f_20
  | 21 => some f_21
  | 22 => some f_22
  | 23 => some f_23
  | 24 => some f_24
  | 25 => some f_25
  | 26 => some f_26
  | 27 => some f_27
  | 155 => some f_155
  | 156 => some f_156
  | 157 => some f_157
  | 158 => some f_158
  | 159 => some f_159
  | 160 => some f_160
  | 161 => some f_161
  | 162 => some f_162
  | 163 => some f_163
  | 164 => some f_164
  | 165 => some f_165
  | 166 => some f_166
  | 167 => some f_167
  | 168 => some f_168
  | 169 => some f_169
  | 170 => some f_170
  | 171 => some f_171
  | 172 => some f_172
  | 173 => some f_173
  | 174 => some f_174
  | 301 => some f_301
  | 302 => some f_302
  | 303 => some f_303
  | 304 => some f_304
  | 305 => some f_305
  | 306 => some f_306
  | 307 => some f_307
  | 308 => some f_308
  | 309 => some f_309
  | 310 => some f_310
  | 311 => some f_311
  | 312 => some f_312
  | 313 => some f_313
  | _ => none
def cal : Nat → Cal
  | 0 => fun _ _ _ => .no
  | n + 1 => fun j ds S => match tab j with
    | some F => F.run (cal n) ds S
    | none => .no
def fpos : Nat → Str × Option Str
  | 3 => ("NoText", some "__init__")
  | 9 => ("is_whole", none)
  | 10 => ("is_from", none)
  | 11 => ("is_house", none)
  | 12 => ("is_members", none)
  | 18 => ("is_name", none)
  | 19 => ("is_deed", none)
  | 20 => ("is_asker", none)
  | 21 => ("is_ask", none)
  | 22 => ("rises", none)
  | 23 => ("is_book", none)
  | 24 => ("is_answer", none)
  | 25 => ("are_answers", none)
  | 26 => ("is_state", none)
  | 27 => ("look_at_state", none)
  | 155 => ("show_deed", none)
  | 156 => ("show_ask", none)
  | 157 => ("show_row", none)
  | 158 => ("show_answer", none)
  | 159 => ("show_state", none)
  | 160 => ("figures_in", none)
  | 161 => ("number_in", none)
  | 162 => ("two_in", none)
  | 163 => ("answer_in", none)
  | 164 => ("deed_in", none)
  | 165 => ("ask_in", none)
  | 166 => ("read_ask", none)
  | 167 => ("deed_of_row", none)
  | 168 => ("read_row", none)
  | 169 => ("entry_in", none)
  | 170 => ("answer_entry_in", none)
  | 171 => ("book_in", none)
  | 172 => ("answers_in", none)
  | 173 => ("members_in", none)
  | 174 => ("read_state", none)
  | 301 => ("_law_digits", none)
  | 302 => ("_law_deed", none)
  | 303 => ("_law_ask_of", none)
  | 304 => ("_law_ask_text", none)
  | 305 => ("_law_row_text", none)
  | 306 => ("_law_word", none)
  | 307 => ("_law_state_text", none)
  | 308 => ("_law_row", none)
  | 309 => ("_law_state", none)
  | 310 => ("_law_refused", none)
  | 311 => ("_law_right", none)
  | 312 => ("_law_signs_right", none)
  | 313 => ("law", none)
  | 201 => ("TRUTHS", none)
  | _ => ("", none)
def cpos : Nat → Str
  | 0 => "HeadError"
  | 2 => "NoState"
  | 6 => "NoAsk"
  | 12 => "NoText"
  | _ => ""
def GK (K : PySem.W.Frag) : GT where
  K := K
  ca := fun c => He.ga K (cpos c)
  fa := fun j => He.fAd K (fpos j)
  fn := fun _ => ""
  nC := 0
  nF := 0
  finj := fun i _ h => absurd h (Nat.not_lt_zero i)
  cls := fun c h => absurd h (Nat.not_lt_zero c)
  noat := fun c _ h => absurd h (Nat.not_lt_zero c)
end Ev
set_option Elab.async false
set_option linter.all false
set_option maxRecDepth 100000
set_option maxHeartbeats 0
namespace Ev
open PySem PySem.Spec PyProof.Rows L2

def top (i : Nat) : Stmt := PySem.Challenge.pw_trueheads_k71_texts_written_and_read.main.body.getD i (.Pass ⟨0, 0, 0, 0⟩)
structure Fs (w : World) (K : PySem.W.Frag) (mg : Str → Option Value) : Prop where
  k_TRUTHS : mg "TRUTHS" = some (.ref ((GK K).fa 201))
  t_TRUTHS : TabIs (GK K) ((GK K).fa 201) kv_201
  d_TRUTHS : ∃ es n, KDict K w ((GK K).fa 201) es n
  b_abs : mg "abs" = none
  b_all : mg "all" = none
  b_bool : mg "bool" = none
  b_enumerate : mg "enumerate" = none
  b_int : mg "int" = none
  b_isinstance : mg "isinstance" = none
  b_len : mg "len" = none
  b_min : mg "min" = none
  b_range : mg "range" = none
  b_repr : mg "repr" = none
  b_str : mg "str" = none
  b_tuple : mg "tuple" = none
  b_zip : mg "zip" = none
  c_FIGURES : ∃ u, mg "FIGURES" = some u ∧ RelV (.str (toS [48, 49, 50, 51, 52, 53, 54, 55, 56, 57])) u
  c_LETTERS : ∃ u, mg "LETTERS" = some u ∧ RelV (.str (toS [97, 98, 99, 100, 101, 102, 103, 104, 105, 106, 107, 108, 109, 110, 111, 112, 113, 114, 115, 116, 117, 118, 119, 120, 121, 122])) u
  c_MOST_ASKER : ∃ u, mg "MOST_ASKER" = some u ∧ RelV (.int (9)) u
  c_MOST_FIGURES : ∃ u, mg "MOST_FIGURES" = some u ∧ RelV (.int (30)) u
  c_MOST_HOUSE : ∃ u, mg "MOST_HOUSE" = some u ∧ RelV (.int (30)) u
  c_MOST_MEMBERS : ∃ u, mg "MOST_MEMBERS" = some u ∧ RelV (.int (7)) u
  c_MOST_NAME : ∃ u, mg "MOST_NAME" = some u ∧ RelV (.int (8)) u
  c_MOST_PLACE : ∃ u, mg "MOST_PLACE" = some u ∧ RelV (.int (29)) u
  c_MOST_VALUE : ∃ u, mg "MOST_VALUE" = some u ∧ RelV (.int (1000000000000)) u
  c_NONE : ∃ u, mg "NONE" = some u ∧ RelV (.str (toS [45])) u
  g_9 : mg "is_whole" = some (.ref ((GK K).fa 9))
  g_10 : mg "is_from" = some (.ref ((GK K).fa 10))
  g_11 : mg "is_house" = some (.ref ((GK K).fa 11))
  g_12 : mg "is_members" = some (.ref ((GK K).fa 12))
  g_18 : mg "is_name" = some (.ref ((GK K).fa 18))
  g_19 : mg "is_deed" = some (.ref ((GK K).fa 19))
  g_20 : mg "is_asker" = some (.ref ((GK K).fa 20))
  g_21 : mg "is_ask" = some (.ref ((GK K).fa 21))
  g_22 : mg "rises" = some (.ref ((GK K).fa 22))
  g_23 : mg "is_book" = some (.ref ((GK K).fa 23))
  g_24 : mg "is_answer" = some (.ref ((GK K).fa 24))
  g_25 : mg "are_answers" = some (.ref ((GK K).fa 25))
  g_26 : mg "is_state" = some (.ref ((GK K).fa 26))
  g_27 : mg "look_at_state" = some (.ref ((GK K).fa 27))
  g_155 : mg "show_deed" = some (.ref ((GK K).fa 155))
  g_156 : mg "show_ask" = some (.ref ((GK K).fa 156))
  g_157 : mg "show_row" = some (.ref ((GK K).fa 157))
  g_158 : mg "show_answer" = some (.ref ((GK K).fa 158))
  g_159 : mg "show_state" = some (.ref ((GK K).fa 159))
  g_160 : mg "figures_in" = some (.ref ((GK K).fa 160))
  g_161 : mg "number_in" = some (.ref ((GK K).fa 161))
  g_162 : mg "two_in" = some (.ref ((GK K).fa 162))
  g_163 : mg "answer_in" = some (.ref ((GK K).fa 163))
  g_164 : mg "deed_in" = some (.ref ((GK K).fa 164))
  g_165 : mg "ask_in" = some (.ref ((GK K).fa 165))
  g_166 : mg "read_ask" = some (.ref ((GK K).fa 166))
  g_167 : mg "deed_of_row" = some (.ref ((GK K).fa 167))
  g_168 : mg "read_row" = some (.ref ((GK K).fa 168))
  g_169 : mg "entry_in" = some (.ref ((GK K).fa 169))
  g_170 : mg "answer_entry_in" = some (.ref ((GK K).fa 170))
  g_171 : mg "book_in" = some (.ref ((GK K).fa 171))
  g_172 : mg "answers_in" = some (.ref ((GK K).fa 172))
  g_173 : mg "members_in" = some (.ref ((GK K).fa 173))
  g_174 : mg "read_state" = some (.ref ((GK K).fa 174))
  g_301 : mg "_law_digits" = some (.ref ((GK K).fa 301))
  g_302 : mg "_law_deed" = some (.ref ((GK K).fa 302))
  g_303 : mg "_law_ask_of" = some (.ref ((GK K).fa 303))
  g_304 : mg "_law_ask_text" = some (.ref ((GK K).fa 304))
  g_305 : mg "_law_row_text" = some (.ref ((GK K).fa 305))
  g_306 : mg "_law_word" = some (.ref ((GK K).fa 306))
  g_307 : mg "_law_state_text" = some (.ref ((GK K).fa 307))
  g_308 : mg "_law_row" = some (.ref ((GK K).fa 308))
  g_309 : mg "_law_state" = some (.ref ((GK K).fa 309))
  g_310 : mg "_law_refused" = some (.ref ((GK K).fa 310))
  g_311 : mg "_law_right" = some (.ref ((GK K).fa 311))
  g_312 : mg "_law_signs_right" = some (.ref ((GK K).fa 312))
  g_313 : mg "law" = some (.ref ((GK K).fa 313))
  n_NoAsk : PySem.W.kitOne K (.type "NoneType") (.ref ((GK K).ca 6)) = some false
  i_NoAsk : ∀ p ∈ it_NoAsk, ExcC K ((GK K).ca p.1) ∧ PySem.W.kitOne K (.ref ((GK K).ca p.1)) (.ref ((GK K).ca 6)) = some p.2
  n_NoState : PySem.W.kitOne K (.type "NoneType") (.ref ((GK K).ca 2)) = some false
  i_NoState : ∀ p ∈ it_NoState, ExcC K ((GK K).ca p.1) ∧ PySem.W.kitOne K (.ref ((GK K).ca p.1)) (.ref ((GK K).ca 2)) = some p.2
  m_HeadError : ∀ p ∈ mt_HeadError, PySem.W.exmOne K (.ref ((GK K).ca p.1)) (.ref ((GK K).ca 0)) = some p.2
  gc_HeadError : mg "HeadError" = some (.ref ((GK K).ca 0))
  gc_NoAsk : mg "NoAsk" = some (.ref ((GK K).ca 6))
  x_NoAsk : PySem.W.excIn K ((GK K).ca 6) He.veBase "ValueError.__new__" = true ∧ PySem.W.keepIn K (.ref ((GK K).ca 6)) = true ∧ PySem.W.subIn K (.ref ((GK K).ca 6)) (.type "BaseException") = some true ∧ PySem.W.typeIn K (.ref ((GK K).ca 6)) = some (.type "type")
  gc_NoState : mg "NoState" = some (.ref ((GK K).ca 2))
  x_NoState : PySem.W.excIn K ((GK K).ca 2) He.veBase "ValueError.__new__" = true ∧ PySem.W.keepIn K (.ref ((GK K).ca 2)) = true ∧ PySem.W.subIn K (.ref ((GK K).ca 2)) (.type "BaseException") = some true ∧ PySem.W.typeIn K (.ref ((GK K).ca 2)) = some (.type "type")
abbrev d_9 : He.DefD := ⟨("is_whole", none), "is_whole", "is_whole", defArgs (top 9), defBody (top 9), defScope (top 9), [], []⟩
abbrev N_9 : List Str := ["thing"]
abbrev P_9 : List Str := ["thing"]
theorem nd_9 : (N_9).Nodup := by decide +kernel
theorem sc_9 : FnScope N_9 P_9 (d_9).scope := ⟨rfl, rfl, rfl, nd_9, rfl, by decide +kernel, by decide +kernel⟩
abbrev d_10 : He.DefD := ⟨("is_from", none), "is_from", "is_from", defArgs (top 10), defBody (top 10), defScope (top 10), [], [("least", .int (0)), ("most", .int (1000000000))]⟩
abbrev N_10 : List Str := ["thing", "least", "most"]
abbrev P_10 : List Str := ["thing", "least", "most"]
theorem nd_10 : (N_10).Nodup := by decide +kernel
theorem sc_10 : FnScope N_10 P_10 (d_10).scope := ⟨rfl, rfl, rfl, nd_10, rfl, by decide +kernel, by decide +kernel⟩
abbrev d_11 : He.DefD := ⟨("is_house", none), "is_house", "is_house", defArgs (top 11), defBody (top 11), defScope (top 11), [], []⟩
abbrev N_11 : List Str := ["thing"]
abbrev P_11 : List Str := ["thing"]
theorem nd_11 : (N_11).Nodup := by decide +kernel
theorem sc_11 : FnScope N_11 P_11 (d_11).scope := ⟨rfl, rfl, rfl, nd_11, rfl, by decide +kernel, by decide +kernel⟩
abbrev d_12 : He.DefD := ⟨("is_members", none), "is_members", "is_members", defArgs (top 12), defBody (top 12), defScope (top 12), [], []⟩
abbrev N_12 : List Str := ["thing", "one"]
abbrev P_12 : List Str := ["thing"]
theorem nd_12 : (N_12).Nodup := by decide +kernel
theorem sc_12 : FnScope N_12 P_12 (d_12).scope := ⟨rfl, rfl, rfl, nd_12, rfl, by decide +kernel, by decide +kernel⟩
abbrev d_18 : He.DefD := ⟨("is_name", none), "is_name", "is_name", defArgs (top 18), defBody (top 18), defScope (top 18), [], []⟩
abbrev N_18 : List Str := ["thing", "sign"]
abbrev P_18 : List Str := ["thing"]
theorem nd_18 : (N_18).Nodup := by decide +kernel
theorem sc_18 : FnScope N_18 P_18 (d_18).scope := ⟨rfl, rfl, rfl, nd_18, rfl, by decide +kernel, by decide +kernel⟩
abbrev d_19 : He.DefD := ⟨("is_deed", none), "is_deed", "is_deed", defArgs (top 19), defBody (top 19), defScope (top 19), [], []⟩
abbrev N_19 : List Str := ["thing", "word", "rest"]
abbrev P_19 : List Str := ["thing"]
theorem nd_19 : (N_19).Nodup := by decide +kernel
theorem sc_19 : FnScope N_19 P_19 (d_19).scope := ⟨rfl, rfl, rfl, nd_19, rfl, by decide +kernel, by decide +kernel⟩
abbrev d_20 : He.DefD := ⟨("is_asker", none), "is_asker", "is_asker", defArgs (top 20), defBody (top 20), defScope (top 20), [], []⟩
abbrev N_20 : List Str := ["thing"]
abbrev P_20 : List Str := ["thing"]
theorem nd_20 : (N_20).Nodup := by decide +kernel
theorem sc_20 : FnScope N_20 P_20 (d_20).scope := ⟨rfl, rfl, rfl, nd_20, rfl, by decide +kernel, by decide +kernel⟩
abbrev d_21 : He.DefD := ⟨("is_ask", none), "is_ask", "is_ask", defArgs (top 21), defBody (top 21), defScope (top 21), [], []⟩
abbrev N_21 : List Str := ["thing"]
abbrev P_21 : List Str := ["thing"]
theorem nd_21 : (N_21).Nodup := by decide +kernel
theorem sc_21 : FnScope N_21 P_21 (d_21).scope := ⟨rfl, rfl, rfl, nd_21, rfl, by decide +kernel, by decide +kernel⟩
abbrev d_22 : He.DefD := ⟨("rises", none), "rises", "rises", defArgs (top 23), defBody (top 23), defScope (top 23), [], []⟩
abbrev N_22 : List Str := ["some", "one", "other"]
abbrev P_22 : List Str := ["some"]
theorem nd_22 : (N_22).Nodup := by decide +kernel
theorem sc_22 : FnScope N_22 P_22 (d_22).scope := ⟨rfl, rfl, rfl, nd_22, rfl, by decide +kernel, by decide +kernel⟩
abbrev d_23 : He.DefD := ⟨("is_book", none), "is_book", "is_book", defArgs (top 24), defBody (top 24), defScope (top 24), [], []⟩
abbrev N_23 : List Str := ["thing", "entry"]
abbrev P_23 : List Str := ["thing"]
theorem nd_23 : (N_23).Nodup := by decide +kernel
theorem sc_23 : FnScope N_23 P_23 (d_23).scope := ⟨rfl, rfl, rfl, nd_23, rfl, by decide +kernel, by decide +kernel⟩
abbrev d_24 : He.DefD := ⟨("is_answer", none), "is_answer", "is_answer", defArgs (top 25), defBody (top 25), defScope (top 25), [], []⟩
abbrev N_24 : List Str := ["thing"]
abbrev P_24 : List Str := ["thing"]
theorem nd_24 : (N_24).Nodup := by decide +kernel
theorem sc_24 : FnScope N_24 P_24 (d_24).scope := ⟨rfl, rfl, rfl, nd_24, rfl, by decide +kernel, by decide +kernel⟩
abbrev d_25 : He.DefD := ⟨("are_answers", none), "are_answers", "are_answers", defArgs (top 26), defBody (top 26), defScope (top 26), [], []⟩
abbrev N_25 : List Str := ["thing", "entry"]
abbrev P_25 : List Str := ["thing"]
theorem nd_25 : (N_25).Nodup := by decide +kernel
theorem sc_25 : FnScope N_25 P_25 (d_25).scope := ⟨rfl, rfl, rfl, nd_25, rfl, by decide +kernel, by decide +kernel⟩
abbrev d_26 : He.DefD := ⟨("is_state", none), "is_state", "is_state", defArgs (top 27), defBody (top 27), defScope (top 27), [], []⟩
abbrev N_26 : List Str := ["thing"]
abbrev P_26 : List Str := ["thing"]
theorem nd_26 : (N_26).Nodup := by decide +kernel
theorem sc_26 : FnScope N_26 P_26 (d_26).scope := ⟨rfl, rfl, rfl, nd_26, rfl, by decide +kernel, by decide +kernel⟩
abbrev d_27 : He.DefD := ⟨("look_at_state", none), "look_at_state", "look_at_state", defArgs (top 28), defBody (top 28), defScope (top 28), [], []⟩
abbrev N_27 : List Str := ["thing"]
abbrev P_27 : List Str := ["thing"]
theorem nd_27 : (N_27).Nodup := by decide +kernel
theorem sc_27 : FnScope N_27 P_27 (d_27).scope := ⟨rfl, rfl, rfl, nd_27, rfl, by decide +kernel, by decide +kernel⟩
abbrev d_155 : He.DefD := ⟨("show_deed", none), "show_deed", "show_deed", defArgs (top 35), defBody (top 35), defScope (top 35), [], []⟩
abbrev N_155 : List Str := ["deed", "one"]
abbrev P_155 : List Str := ["deed"]
theorem nd_155 : (N_155).Nodup := by decide +kernel
theorem sc_155 : FnScope N_155 P_155 (d_155).scope := ⟨rfl, rfl, rfl, nd_155, rfl, by decide +kernel, by decide +kernel⟩
abbrev d_156 : He.DefD := ⟨("show_ask", none), "show_ask", "show_ask", defArgs (top 36), defBody (top 36), defScope (top 36), [], []⟩
abbrev N_156 : List Str := ["ask", "asker", "stamp", "deed"]
abbrev P_156 : List Str := ["ask"]
theorem nd_156 : (N_156).Nodup := by decide +kernel
theorem sc_156 : FnScope N_156 P_156 (d_156).scope := ⟨rfl, rfl, rfl, nd_156, rfl, by decide +kernel, by decide +kernel⟩
abbrev d_157 : He.DefD := ⟨("show_row", none), "show_row", "show_row", defArgs (top 37), defBody (top 37), defScope (top 37), [], []⟩
abbrev N_157 : List Str := ["row", "age", "number", "ask"]
abbrev P_157 : List Str := ["row"]
theorem nd_157 : (N_157).Nodup := by decide +kernel
theorem sc_157 : FnScope N_157 P_157 (d_157).scope := ⟨rfl, rfl, rfl, nd_157, rfl, by decide +kernel, by decide +kernel⟩
abbrev d_158 : He.DefD := ⟨("show_answer", none), "show_answer", "show_answer", defArgs (top 38), defBody (top 38), defScope (top 38), [], []⟩
abbrev N_158 : List Str := ["answer"]
abbrev P_158 : List Str := ["answer"]
theorem nd_158 : (N_158).Nodup := by decide +kernel
theorem sc_158 : FnScope N_158 P_158 (d_158).scope := ⟨rfl, rfl, rfl, nd_158, rfl, by decide +kernel, by decide +kernel⟩
abbrev d_159 : He.DefD := ⟨("show_state", none), "show_state", "show_state", defArgs (top 39), defBody (top 39), defScope (top 39), [], []⟩
abbrev N_159 : List Str := ["state", "book", "answers", "members", "rows", "name", "value", "asker", "stamp", "answer", "house", "words"]
abbrev P_159 : List Str := ["state"]
theorem nd_159 : (N_159).Nodup := by decide +kernel
theorem sc_159 : FnScope N_159 P_159 (d_159).scope := ⟨rfl, rfl, rfl, nd_159, rfl, by decide +kernel, by decide +kernel⟩
abbrev d_160 : He.DefD := ⟨("figures_in", none), "figures_in", "figures_in", defArgs (top 40), defBody (top 40), defScope (top 40), [], []⟩
abbrev N_160 : List Str := ["word", "sign"]
abbrev P_160 : List Str := ["word"]
theorem nd_160 : (N_160).Nodup := by decide +kernel
theorem sc_160 : FnScope N_160 P_160 (d_160).scope := ⟨rfl, rfl, rfl, nd_160, rfl, by decide +kernel, by decide +kernel⟩
abbrev d_161 : He.DefD := ⟨("number_in", none), "number_in", "number_in", defArgs (top 41), defBody (top 41), defScope (top 41), [], []⟩
abbrev N_161 : List Str := ["word", "found"]
abbrev P_161 : List Str := ["word"]
theorem nd_161 : (N_161).Nodup := by decide +kernel
theorem sc_161 : FnScope N_161 P_161 (d_161).scope := ⟨rfl, rfl, rfl, nd_161, rfl, by decide +kernel, by decide +kernel⟩
abbrev d_162 : He.DefD := ⟨("two_in", none), "two_in", "two_in", defArgs (top 42), defBody (top 42), defScope (top 42), [], []⟩
abbrev N_162 : List Str := ["word", "first", "dot", "last"]
abbrev P_162 : List Str := ["word"]
theorem nd_162 : (N_162).Nodup := by decide +kernel
theorem sc_162 : FnScope N_162 P_162 (d_162).scope := ⟨rfl, rfl, rfl, nd_162, rfl, by decide +kernel, by decide +kernel⟩
abbrev d_163 : He.DefD := ⟨("answer_in", none), "answer_in", "answer_in", defArgs (top 43), defBody (top 43), defScope (top 43), [], []⟩
abbrev N_163 : List Str := ["word", "found"]
abbrev P_163 : List Str := ["word"]
theorem nd_163 : (N_163).Nodup := by decide +kernel
theorem sc_163 : FnScope N_163 P_163 (d_163).scope := ⟨rfl, rfl, rfl, nd_163, rfl, by decide +kernel, by decide +kernel⟩
abbrev d_164 : He.DefD := ⟨("deed_in", none), "deed_in", "deed_in", defArgs (top 44), defBody (top 44), defScope (top 44), [], []⟩
abbrev N_164 : List Str := ["words", "word", "rest", "numbers", "one", "found"]
abbrev P_164 : List Str := ["words"]
theorem nd_164 : (N_164).Nodup := by decide +kernel
theorem sc_164 : FnScope N_164 P_164 (d_164).scope := ⟨rfl, rfl, rfl, nd_164, rfl, by decide +kernel, by decide +kernel⟩
abbrev d_165 : He.DefD := ⟨("ask_in", none), "ask_in", "ask_in", defArgs (top 45), defBody (top 45), defScope (top 45), [], []⟩
abbrev N_165 : List Str := ["text", "head", "words", "found"]
abbrev P_165 : List Str := ["text"]
theorem nd_165 : (N_165).Nodup := by decide +kernel
theorem sc_165 : FnScope N_165 P_165 (d_165).scope := ⟨rfl, rfl, rfl, nd_165, rfl, by decide +kernel, by decide +kernel⟩
abbrev d_166 : He.DefD := ⟨("read_ask", none), "read_ask", "read_ask", defArgs (top 46), defBody (top 46), defScope (top 46), [], []⟩
abbrev N_166 : List Str := ["text", "found"]
abbrev P_166 : List Str := ["text"]
theorem nd_166 : (N_166).Nodup := by decide +kernel
theorem sc_166 : FnScope N_166 P_166 (d_166).scope := ⟨rfl, rfl, rfl, nd_166, rfl, by decide +kernel, by decide +kernel⟩
abbrev d_167 : He.DefD := ⟨("deed_of_row", none), "deed_of_row", "deed_of_row", defArgs (top 47), defBody (top 47), defScope (top 47), [], []⟩
abbrev N_167 : List Str := ["text", "head", "blank", "rest", "age", "number", "found"]
abbrev P_167 : List Str := ["text"]
theorem nd_167 : (N_167).Nodup := by decide +kernel
theorem sc_167 : FnScope N_167 P_167 (d_167).scope := ⟨rfl, rfl, rfl, nd_167, rfl, by decide +kernel, by decide +kernel⟩
abbrev d_168 : He.DefD := ⟨("read_row", none), "read_row", "read_row", defArgs (top 48), defBody (top 48), defScope (top 48), [], []⟩
abbrev N_168 : List Str := ["text", "found", "rows", "at", "row", "one"]
abbrev P_168 : List Str := ["text"]
theorem nd_168 : (N_168).Nodup := by decide +kernel
theorem sc_168 : FnScope N_168 P_168 (d_168).scope := ⟨rfl, rfl, rfl, nd_168, rfl, by decide +kernel, by decide +kernel⟩
abbrev d_169 : He.DefD := ⟨("entry_in", none), "entry_in", "entry_in", defArgs (top 49), defBody (top 49), defScope (top 49), [], []⟩
abbrev N_169 : List Str := ["word", "name", "sign", "rest"]
abbrev P_169 : List Str := ["word"]
theorem nd_169 : (N_169).Nodup := by decide +kernel
theorem sc_169 : FnScope N_169 P_169 (d_169).scope := ⟨rfl, rfl, rfl, nd_169, rfl, by decide +kernel, by decide +kernel⟩
abbrev d_170 : He.DefD := ⟨("answer_entry_in", none), "answer_entry_in", "answer_entry_in", defArgs (top 50), defBody (top 50), defScope (top 50), [], []⟩
abbrev N_170 : List Str := ["word", "head", "sign", "rest", "found"]
abbrev P_170 : List Str := ["word"]
theorem nd_170 : (N_170).Nodup := by decide +kernel
theorem sc_170 : FnScope N_170 P_170 (d_170).scope := ⟨rfl, rfl, rfl, nd_170, rfl, by decide +kernel, by decide +kernel⟩
abbrev d_171 : He.DefD := ⟨("book_in", none), "book_in", "book_in", defArgs (top 51), defBody (top 51), defScope (top 51), [], []⟩
abbrev N_171 : List Str := ["words", "found", "word"]
abbrev P_171 : List Str := ["words"]
theorem nd_171 : (N_171).Nodup := by decide +kernel
theorem sc_171 : FnScope N_171 P_171 (d_171).scope := ⟨rfl, rfl, rfl, nd_171, rfl, by decide +kernel, by decide +kernel⟩
abbrev d_172 : He.DefD := ⟨("answers_in", none), "answers_in", "answers_in", defArgs (top 52), defBody (top 52), defScope (top 52), [], []⟩
abbrev N_172 : List Str := ["words", "found", "word"]
abbrev P_172 : List Str := ["words"]
theorem nd_172 : (N_172).Nodup := by decide +kernel
theorem sc_172 : FnScope N_172 P_172 (d_172).scope := ⟨rfl, rfl, rfl, nd_172, rfl, by decide +kernel, by decide +kernel⟩
abbrev d_173 : He.DefD := ⟨("members_in", none), "members_in", "members_in", defArgs (top 53), defBody (top 53), defScope (top 53), [], []⟩
abbrev N_173 : List Str := ["words", "found", "word"]
abbrev P_173 : List Str := ["words"]
theorem nd_173 : (N_173).Nodup := by decide +kernel
theorem sc_173 : FnScope N_173 P_173 (d_173).scope := ⟨rfl, rfl, rfl, nd_173, rfl, by decide +kernel, by decide +kernel⟩
abbrev d_174 : He.DefD := ⟨("read_state", none), "read_state", "read_state", defArgs (top 54), defBody (top 54), defScope (top 54), [], []⟩
abbrev N_174 : List Str := ["text", "found", "readers", "rows", "at", "row", "one", "word", "words"]
abbrev P_174 : List Str := ["text"]
theorem nd_174 : (N_174).Nodup := by decide +kernel
theorem sc_174 : FnScope N_174 P_174 (d_174).scope := ⟨rfl, rfl, rfl, nd_174, rfl, by decide +kernel, by decide +kernel⟩
abbrev d_301 : He.DefD := ⟨("_law_digits", none), "_law_digits", "_law_digits", defArgs (top 56), defBody (top 56), defScope (top 56), [], []⟩
abbrev N_301 : List Str := ["_law_cell", "_law_turn", "_law_sizes", "_law_number", "_law_wide", "_law_seed", "_law_found", "_law_k", "_law_size"]
abbrev P_301 : List Str := ["_law_cell", "_law_turn", "_law_sizes"]
theorem nd_301 : (N_301).Nodup := by decide +kernel
theorem sc_301 : FnScope N_301 P_301 (d_301).scope := ⟨rfl, rfl, rfl, nd_301, rfl, by decide +kernel, by decide +kernel⟩
abbrev d_302 : He.DefD := ⟨("_law_deed", none), "_law_deed", "_law_deed", defArgs (top 57), defBody (top 57), defScope (top 57), [], []⟩
abbrev N_302 : List Str := ["_law_d", "_law_name", "_law_number", "_law_word_here"]
abbrev P_302 : List Str := ["_law_d"]
theorem nd_302 : (N_302).Nodup := by decide +kernel
theorem sc_302 : FnScope N_302 P_302 (d_302).scope := ⟨rfl, rfl, rfl, nd_302, rfl, by decide +kernel, by decide +kernel⟩
abbrev d_303 : He.DefD := ⟨("_law_ask_of", none), "_law_ask_of", "_law_ask_of", defArgs (top 58), defBody (top 58), defScope (top 58), [], []⟩
abbrev N_303 : List Str := ["_law_d", "_law_deed_here"]
abbrev P_303 : List Str := ["_law_d"]
theorem nd_303 : (N_303).Nodup := by decide +kernel
theorem sc_303 : FnScope N_303 P_303 (d_303).scope := ⟨rfl, rfl, rfl, nd_303, rfl, by decide +kernel, by decide +kernel⟩
abbrev d_304 : He.DefD := ⟨("_law_ask_text", none), "_law_ask_text", "_law_ask_text", defArgs (top 59), defBody (top 59), defScope (top 59), [], []⟩
abbrev N_304 : List Str := ["_law_ask", "_law_one"]
abbrev P_304 : List Str := ["_law_ask"]
theorem nd_304 : (N_304).Nodup := by decide +kernel
theorem sc_304 : FnScope N_304 P_304 (d_304).scope := ⟨rfl, rfl, rfl, nd_304, rfl, by decide +kernel, by decide +kernel⟩
abbrev d_305 : He.DefD := ⟨("_law_row_text", none), "_law_row_text", "_law_row_text", defArgs (top 60), defBody (top 60), defScope (top 60), [], []⟩
abbrev N_305 : List Str := ["_law_row_here", "_law_age", "_law_place", "_law_ask"]
abbrev P_305 : List Str := ["_law_row_here"]
theorem nd_305 : (N_305).Nodup := by decide +kernel
theorem sc_305 : FnScope N_305 P_305 (d_305).scope := ⟨rfl, rfl, rfl, nd_305, rfl, by decide +kernel, by decide +kernel⟩
abbrev d_306 : He.DefD := ⟨("_law_word", none), "_law_word", "_law_word", defArgs (top 61), defBody (top 61), defScope (top 61), [], []⟩
abbrev N_306 : List Str := ["_law_one"]
abbrev P_306 : List Str := ["_law_one"]
theorem nd_306 : (N_306).Nodup := by decide +kernel
theorem sc_306 : FnScope N_306 P_306 (d_306).scope := ⟨rfl, rfl, rfl, nd_306, rfl, by decide +kernel, by decide +kernel⟩
abbrev d_307 : He.DefD := ⟨("_law_state_text", none), "_law_state_text", "_law_state_text", defArgs (top 62), defBody (top 62), defScope (top 62), [], []⟩
abbrev N_307 : List Str := ["_law_state_here", "_law_rows", "_law_name", "_law_value", "_law_asker", "_law_stamp", "_law_one", "_law_house"]
abbrev P_307 : List Str := ["_law_state_here"]
theorem nd_307 : (N_307).Nodup := by decide +kernel
theorem sc_307 : FnScope N_307 P_307 (d_307).scope := ⟨rfl, rfl, rfl, nd_307, rfl, by decide +kernel, by decide +kernel⟩
abbrev d_308 : He.DefD := ⟨("_law_row", none), "_law_row", "_law_row", defArgs (top 63), defBody (top 63), defScope (top 63), [], []⟩
abbrev N_308 : List Str := ["_law_d", "_law_age", "_law_place", "_law_found", "_law_k", "_law_e"]
abbrev P_308 : List Str := ["_law_d"]
theorem nd_308 : (N_308).Nodup := by decide +kernel
theorem sc_308 : FnScope N_308 P_308 (d_308).scope := ⟨rfl, rfl, rfl, nd_308, rfl, by decide +kernel, by decide +kernel⟩
abbrev d_309 : He.DefD := ⟨("_law_state", none), "_law_state", "_law_state", defArgs (top 64), defBody (top 64), defScope (top 64), [], []⟩
abbrev N_309 : List Str := ["_law_d", "_law_book", "_law_k", "_law_name", "_law_some", "_law_members"]
abbrev P_309 : List Str := ["_law_d"]
theorem nd_309 : (N_309).Nodup := by decide +kernel
theorem sc_309 : FnScope N_309 P_309 (d_309).scope := ⟨rfl, rfl, rfl, nd_309, rfl, by decide +kernel, by decide +kernel⟩
abbrev d_310 : He.DefD := ⟨("_law_refused", none), "_law_refused", "_law_refused", defArgs (top 65), defBody (top 65), defScope (top 65), [], []⟩
abbrev N_310 : List Str := ["_law_thing", "_law_found", "_law_way", "_law_kept", "_law_e"]
abbrev P_310 : List Str := ["_law_thing"]
theorem nd_310 : (N_310).Nodup := by decide +kernel
theorem sc_310 : FnScope N_310 P_310 (d_310).scope := ⟨rfl, rfl, rfl, nd_310, rfl, by decide +kernel, by decide +kernel⟩
abbrev d_311 : He.DefD := ⟨("_law_right", none), "_law_right", "_law_right", defArgs (top 66), defBody (top 66), defScope (top 66), [], []⟩
abbrev N_311 : List Str := ["_law_ask", "_law_row_here", "_law_state_here", "_law_text", "_law_turn", "_law_found"]
abbrev P_311 : List Str := ["_law_ask", "_law_row_here", "_law_state_here"]
theorem nd_311 : (N_311).Nodup := by decide +kernel
theorem sc_311 : FnScope N_311 P_311 (d_311).scope := ⟨rfl, rfl, rfl, nd_311, rfl, by decide +kernel, by decide +kernel⟩
abbrev d_312 : He.DefD := ⟨("_law_signs_right", none), "_law_signs_right", "_law_signs_right", defArgs (top 67), defBody (top 67), defScope (top 67), [], []⟩
abbrev N_312 : List Str := ["_law_row_here", "_law_book", "_law_at", "_law_sign", "_law_name", "_law_ask", "_law_some", "_law_asker"]
abbrev P_312 : List Str := []
theorem nd_312 : (N_312).Nodup := by decide +kernel
theorem sc_312 : FnScope N_312 P_312 (d_312).scope := ⟨rfl, rfl, rfl, nd_312, rfl, by decide +kernel, by decide +kernel⟩
abbrev d_313 : He.DefD := ⟨("law", none), "law", "law", defArgs (top 68), defBody (top 68), defScope (top 68), [], []⟩
abbrev N_313 : List Str := ["_law_script", "_law_turn", "_law_cell", "_law_d", "_law_e", "_law_thing"]
abbrev P_313 : List Str := ["_law_script"]
theorem nd_313 : (N_313).Nodup := by decide +kernel
theorem sc_313 : FnScope N_313 P_313 (d_313).scope := ⟨rfl, rfl, rfl, nd_313, rfl, by decide +kernel, by decide +kernel⟩
section
variable (P : Program) (w : World) (K : PySem.W.Frag) (mg : Str → Option Value) (base : Heap)
def Cb (d : He.DefD) (ps : List Str) (j n : Nat) : Prop := ∃ fd, FunD K d.name d.qual d.params d.body d.scope (d.dvs K) (d.kws K) ((GK K).fa j) fd ∧ FnG P w K mg base n ((GK K).fa j) fd ps (spC (GK K) (cal n) j ps.length)
structure All (n : Nat) : Prop where
  a_9 : Cb P w K mg base d_9 P_9 9 n
  a_10 : Cb P w K mg base d_10 P_10 10 n
  a_11 : Cb P w K mg base d_11 P_11 11 n
  a_12 : Cb P w K mg base d_12 P_12 12 n
  a_18 : Cb P w K mg base d_18 P_18 18 n
  a_19 : Cb P w K mg base d_19 P_19 19 n
  a_20 : Cb P w K mg base d_20 P_20 20 n
  a_21 : Cb P w K mg base d_21 P_21 21 n
  a_22 : Cb P w K mg base d_22 P_22 22 n
  a_23 : Cb P w K mg base d_23 P_23 23 n
  a_24 : Cb P w K mg base d_24 P_24 24 n
  a_25 : Cb P w K mg base d_25 P_25 25 n
  a_26 : Cb P w K mg base d_26 P_26 26 n
  a_27 : Cb P w K mg base d_27 P_27 27 n
  a_155 : Cb P w K mg base d_155 P_155 155 n
  a_156 : Cb P w K mg base d_156 P_156 156 n
  a_157 : Cb P w K mg base d_157 P_157 157 n
  a_158 : Cb P w K mg base d_158 P_158 158 n
  a_159 : Cb P w K mg base d_159 P_159 159 n
  a_160 : Cb P w K mg base d_160 P_160 160 n
  a_161 : Cb P w K mg base d_161 P_161 161 n
  a_162 : Cb P w K mg base d_162 P_162 162 n
  a_163 : Cb P w K mg base d_163 P_163 163 n
  a_164 : Cb P w K mg base d_164 P_164 164 n
  a_165 : Cb P w K mg base d_165 P_165 165 n
  a_166 : Cb P w K mg base d_166 P_166 166 n
  a_167 : Cb P w K mg base d_167 P_167 167 n
  a_168 : Cb P w K mg base d_168 P_168 168 n
  a_169 : Cb P w K mg base d_169 P_169 169 n
  a_170 : Cb P w K mg base d_170 P_170 170 n
  a_171 : Cb P w K mg base d_171 P_171 171 n
  a_172 : Cb P w K mg base d_172 P_172 172 n
  a_173 : Cb P w K mg base d_173 P_173 173 n
  a_174 : Cb P w K mg base d_174 P_174 174 n
  a_301 : Cb P w K mg base d_301 P_301 301 n
  a_302 : Cb P w K mg base d_302 P_302 302 n
  a_303 : Cb P w K mg base d_303 P_303 303 n
  a_304 : Cb P w K mg base d_304 P_304 304 n
  a_305 : Cb P w K mg base d_305 P_305 305 n
  a_306 : Cb P w K mg base d_306 P_306 306 n
  a_307 : Cb P w K mg base d_307 P_307 307 n
  a_308 : Cb P w K mg base d_308 P_308 308 n
  a_309 : Cb P w K mg base d_309 P_309 309 n
  a_310 : Cb P w K mg base d_310 P_310 310 n
  a_311 : Cb P w K mg base d_311 P_311 311 n
  a_312 : Cb P w K mg base d_312 P_312 312 n
  a_313 : Cb P w K mg base d_313 P_313 313 n
end
section
variable {P : Program} {w : World} {K : PySem.W.Frag} {mg : Str → Option Value} {base : Heap} {n : Nat} {X : Cx} {W : WX'} {x : Str} {p pos : Pos} {e : Expr} {es : List Expr}
theorem blk_ {N N' : List Str} {sc sc' scope : Scope} {own : List (Str × Nat)} (e1 : N' = N) (e2 : sc' = sc) (h : blkC N sc scope own = true) : BlkOk N' sc' scope own := by
  subst e1 e2
  exact blkOk_by h
theorem h65_ {A : Around} (hr : Room n A) : A.units + 65 < cLine := by have := hr.un; omega
theorem kb0 {K : PySem.W.Frag} {x qual : Str} {params : Arguments} {body : List Stmt} {scope : Scope} {kws : List (Str × V)} {f : Addr} {fd : FuncData} {ps : List Str} (F : FunD K x qual params body scope [] kws f fd) (n : Nat) (ks : List Str) (ms : List (Str × V)) (g : {α : Type} → List α → List α → List α → List α)
    (hk : kws ≠ []) (hms : ∀ q ∈ ms, q ∈ kws) (hrel : ∀ {vs mz zs : List V} {us mv ws : List Value}, Vals vs us → Vals mz mv → Vals zs ws → Vals (g vs mz zs) (g us mv ws))
    (h : ∀ (D : Addr) (doc pm : Value) (an : Option Addr) (cdv ct : Value) (us mv ws : List Value), us.length = n → mv.length = ms.length → ws.length = ks.length →
      KwChain D ((ms.map (·.1)).zip mv) (bindArgs (PySem.W.fnOf x qual params body scope .none (.ref D) doc pm an cdv ct) ⟨us, ks.zip ws⟩) (ps.zip (g us mv ws))) :
    ∃ mv : List Value, KBn K fd ps n ks (fun us ws => g us mv ws) (fun vs zs => g vs (ms.map (·.2)) zs) := by
  obtain ⟨oc, od, dV, kV, doc, pm, an, cdv, ct, osl, rfl, lk, hcd, hD, hK⟩ := F.ex
  rcases hD with ⟨_, rfl⟩ | ⟨z, _⟩
  · rcases hK with z | ⟨D, rfl, hq⟩
    · exact absurd z hk
    · obtain ⟨mv, hl, rk, look⟩ := kwd_vals (ms := ms) fun q hm => hq q (hms q hm)
      exact ⟨mv, ⟨fun s us ws X l1 l2 => BindsTo.of_looks fun M => KwChain.looks X look (h D doc pm an cdv ct us mv ws l1 hl l2), fun r1 r2 => hrel r1 rk r2⟩⟩
  · exact absurd rfl z
theorem x_gstr {x : Str} {l : List Nat} {pos : Pos} {G : GT} {c : Cal} (hg : Gl X x) (hm : ∃ u, X.mg x = some u ∧ RelV (.str (toS l)) u) (hd : (x == ("__debug__" : Str)) = false := by decide) : PE X (.Name x pos) (tE G W c (eC (.str l))) :=
  x_gval hg hm (fun _ _ _ => by simp only [RV]) hd
theorem gn_ (i : Nat) {G : GT} {F : Fram} {x : Str} {pos : Pos} (hN : X.N.Nodup := by first | assumption | decide +kernel) (hi : X.N[i]? = some x := by rfl) (hx : Loc X.env.scope x := by first | exact Or.inl rfl | exact Or.inr rfl) (hf : X.fn x = true ∨ X.env.scope.names.lookup x = some .local := by first | exact Or.inl rfl | exact Or.inr rfl)
    (hF : ∀ a v, F.r a (a.set i (some v)) := by first | exact fun _ _ => trivial | exact fun _ _ => wipe_set (by decide)) : PG X (.Name x pos) (tG G F (gN i)) := x_gname hN hi hx hf hF
theorem set_ (i : Nat) {G : GT} {c : Cal} {x : Str} {e : Expr} {v : Ev} {pos' pos : Pos} (hN : X.N.Nodup) (he : PE X e (tE G W c v)) (hi : X.N[i]? = some x := by rfl) (hx : Loc X.env.scope x := by first | exact Or.inl rfl | exact Or.inr rfl) (hs : swapsWith e (some (.Name x pos')) pos.line X.env = pure false := by rfl)
    (hf : X.fn x = true ∨ X.env.scope.names.lookup x = some .local := by first | exact Or.inl rfl | exact Or.inr rfl) : PS X (.Assign [.Name x pos'] e pos) (tS G W c (sSet (gN i) v)) := x_set hN hi hx he hs hf
section
variable {G : GT} {c : Cal} {a b : Expr} {va vb : Ev}
theorem tlt_ (ha : PE X a (tE G W c va)) (hb : PE X b (tE G W c vb)) (hm : behindInMarks .Lt b = false := by with_unfolding_all rfl) : PT X (.Compare a [.Lt] [b] pos) (tT G W c (tOf (eBin dLt va vb))) := x_tcmp op_lt' dLt_ok ha hb hm
theorem tle_ (ha : PE X a (tE G W c va)) (hb : PE X b (tE G W c vb)) (hm : behindInMarks .LtE b = false := by with_unfolding_all rfl) : PT X (.Compare a [.LtE] [b] pos) (tT G W c (tOf (eBin dLe va vb))) := x_tcmp op_le dLe_ok ha hb hm
theorem tgt_ (ha : PE X a (tE G W c va)) (hb : PE X b (tE G W c vb)) (hm : behindInMarks .Gt b = false := by with_unfolding_all rfl) : PT X (.Compare a [.Gt] [b] pos) (tT G W c (tOf (eBin dGt va vb))) := x_tcmp op_gt dGt_ok ha hb hm
theorem tge_ (ha : PE X a (tE G W c va)) (hb : PE X b (tE G W c vb)) (hm : behindInMarks .GtE b = false := by with_unfolding_all rfl) : PT X (.Compare a [.GtE] [b] pos) (tT G W c (tOf (eBin dGe va vb))) := x_tcmp op_ge dGe_ok ha hb hm
theorem teq_ (hK : X.K = G.K) (hu : X.A.units + 64 < cLine) (ha : PE X a (tE G W c va)) (hb : PE X b (tE G W c vb)) (hm : behindInMarks .Eq b = false := by with_unfolding_all rfl) : PT X (.Compare a [.Eq] [b] pos) (tT G W c (tOf (eBin dEq va vb))) := x_tcmp (op_eq' hu) (by rw [hK]; exact dEq_ok) ha hb hm
theorem tne_ (hK : X.K = G.K) (hu : X.A.units + 64 < cLine) (ha : PE X a (tE G W c va)) (hb : PE X b (tE G W c vb)) (hm : behindInMarks .NotEq b = false := by with_unfolding_all rfl) : PT X (.Compare a [.NotEq] [b] pos) (tT G W c (tOf (eBin dNe va vb))) := x_tcmp (op_ne' hu) (by rw [hK]; exact dNe_ok) ha hb hm
theorem tis_ (ha : PE X a (tE G W c va)) (hb : PE X b (tE G W c vb)) (hm : behindInMarks .Is b = false := by with_unfolding_all rfl) : PT X (.Compare a [.Is] [b] pos) (tT G W c (tOf (eBin dIs va vb))) := x_tcmp op_is' dIs_ok ha hb hm
theorem tisn_ (ha : PE X a (tE G W c va)) (hb : PE X b (tE G W c vb)) (hm : behindInMarks .IsNot b = false := by with_unfolding_all rfl) : PT X (.Compare a [.IsNot] [b] pos) (tT G W c (tOf (eBin dIsNot va vb))) := x_tcmp op_isnot' dIsNot_ok ha hb hm
theorem tin_ (hK : X.K = G.K) (hu : X.A.units + 65 < cLine) (ha : PE X a (tE G W c va)) (hb : PE X b (tE G W c vb)) (hm : behindInMarks .In b = false := by with_unfolding_all rfl) : PT X (.Compare a [.In] [b] pos) (tT G W c (tOf (eBin dIn va vb))) := x_tcmp (op_in' hu) (by rw [hK]; exact dIn_ok) ha hb hm
theorem tnin_ (hK : X.K = G.K) (hu : X.A.units + 65 < cLine) (ha : PE X a (tE G W c va)) (hb : PE X b (tE G W c vb)) (hm : behindInMarks .NotIn b = false := by with_unfolding_all rfl) : PT X (.Compare a [.NotIn] [b] pos) (tT G W c (tOf (eBin dNotIn va vb))) := x_tcmp (op_notin' hu) (by rw [hK]; exact dNotIn_ok) ha hb hm
end
theorem call_9 (hr : Room n X.A) (hu : X.A.guards = some []) (Z : Fs X.w X.K X.mg) (C : All X.prog X.w X.K X.mg X.base n) (tk : Takes X W) {a : Av} (ha : PA X (e :: es) (tA (GK X.K) W (cal n) a)) (hg : Gl X "is_whole" := by rfl) (hl : AvLen a 1 := by repeat (first | exact avl_nil | refine avl_cons ?_))
    (he : starEach (e :: es) X.env = (false, eval e X.env) :: starEach es X.env := by rfl) (hpl : (backTo pos (starEach es X.env)).any (·.1) = false := by rfl) : PE X (.Call (.Name "is_whole" p) (e :: es) [] pos) (tE (GK X.K) W (cal n) (eCall 9 [] a)) := by
  obtain ⟨fd, D, Fo⟩ := C.a_9
  exact x_call Fo hr hu hg Z.g_9 D.kp (D.bindsN fun _ _ _ _ _ _ us hl => match us, hl with | [_], _ => rfl) .nil (fun _ _ _ => RVs.nil) tk ha hl rfl rfl (by decide) he hpl
theorem calld_10 (hr : Room n X.A) (hu : X.A.guards = some []) (Z : Fs X.w X.K X.mg) (C : All X.prog X.w X.K X.mg X.base n) (tk : Takes X W) {a : Av} (ha : PA X (e :: es) (tA (GK X.K) W (cal n) a)) (hg : Gl X "is_from" := by rfl) (hl : AvLen a 1 := by repeat (first | exact avl_nil | refine avl_cons ?_))
    (he : starEach (e :: es) X.env = (false, eval e X.env) :: starEach es X.env := by rfl) (hpl : (backTo pos (starEach es X.env)).any (·.1) = false := by rfl) : PE X (.Call (.Name "is_from" p) (e :: es) [] pos) (tE (GK X.K) W (cal n) (eCall 10 [(.int (0)), (.int (1000000000))] a)) := by
  obtain ⟨fd, D, Fo⟩ := C.a_10
  obtain ⟨ds, hd, hb⟩ := D.binds0 (ps := P_10) 1 (by simp [He.DefD.kws]) rfl (fun _ _ _ _ _ _ us ks h1 h2 => match us, h1, ks, h2 with | [_], _, [_, _], _ => ⟨_, _, _, _, _, _, rfl, rfl, ⟨_, _, _, _, _, _, rfl, rfl, rfl⟩⟩)
  exact x_call Fo hr hu hg Z.g_10 D.kp hb hd (fun _ _ _ => RVs.cons (by first | (simp only [RV]; done) | (simp only [RV]; rfl)) (RVs.cons (by first | (simp only [RV]; done) | (simp only [RV]; rfl)) (RVs.nil))) tk ha hl rfl rfl (by decide) he hpl
theorem call_11 (hr : Room n X.A) (hu : X.A.guards = some []) (Z : Fs X.w X.K X.mg) (C : All X.prog X.w X.K X.mg X.base n) (tk : Takes X W) {a : Av} (ha : PA X (e :: es) (tA (GK X.K) W (cal n) a)) (hg : Gl X "is_house" := by rfl) (hl : AvLen a 1 := by repeat (first | exact avl_nil | refine avl_cons ?_))
    (he : starEach (e :: es) X.env = (false, eval e X.env) :: starEach es X.env := by rfl) (hpl : (backTo pos (starEach es X.env)).any (·.1) = false := by rfl) : PE X (.Call (.Name "is_house" p) (e :: es) [] pos) (tE (GK X.K) W (cal n) (eCall 11 [] a)) := by
  obtain ⟨fd, D, Fo⟩ := C.a_11
  exact x_call Fo hr hu hg Z.g_11 D.kp (D.bindsN fun _ _ _ _ _ _ us hl => match us, hl with | [_], _ => rfl) .nil (fun _ _ _ => RVs.nil) tk ha hl rfl rfl (by decide) he hpl
theorem call_12 (hr : Room n X.A) (hu : X.A.guards = some []) (Z : Fs X.w X.K X.mg) (C : All X.prog X.w X.K X.mg X.base n) (tk : Takes X W) {a : Av} (ha : PA X (e :: es) (tA (GK X.K) W (cal n) a)) (hg : Gl X "is_members" := by rfl) (hl : AvLen a 1 := by repeat (first | exact avl_nil | refine avl_cons ?_))
    (he : starEach (e :: es) X.env = (false, eval e X.env) :: starEach es X.env := by rfl) (hpl : (backTo pos (starEach es X.env)).any (·.1) = false := by rfl) : PE X (.Call (.Name "is_members" p) (e :: es) [] pos) (tE (GK X.K) W (cal n) (eCall 12 [] a)) := by
  obtain ⟨fd, D, Fo⟩ := C.a_12
  exact x_call Fo hr hu hg Z.g_12 D.kp (D.bindsN fun _ _ _ _ _ _ us hl => match us, hl with | [_], _ => rfl) .nil (fun _ _ _ => RVs.nil) tk ha hl rfl rfl (by decide) he hpl
theorem call_18 (hr : Room n X.A) (hu : X.A.guards = some []) (Z : Fs X.w X.K X.mg) (C : All X.prog X.w X.K X.mg X.base n) (tk : Takes X W) {a : Av} (ha : PA X (e :: es) (tA (GK X.K) W (cal n) a)) (hg : Gl X "is_name" := by rfl) (hl : AvLen a 1 := by repeat (first | exact avl_nil | refine avl_cons ?_))
    (he : starEach (e :: es) X.env = (false, eval e X.env) :: starEach es X.env := by rfl) (hpl : (backTo pos (starEach es X.env)).any (·.1) = false := by rfl) : PE X (.Call (.Name "is_name" p) (e :: es) [] pos) (tE (GK X.K) W (cal n) (eCall 18 [] a)) := by
  obtain ⟨fd, D, Fo⟩ := C.a_18
  exact x_call Fo hr hu hg Z.g_18 D.kp (D.bindsN fun _ _ _ _ _ _ us hl => match us, hl with | [_], _ => rfl) .nil (fun _ _ _ => RVs.nil) tk ha hl rfl rfl (by decide) he hpl
theorem call_19 (hr : Room n X.A) (hu : X.A.guards = some []) (Z : Fs X.w X.K X.mg) (C : All X.prog X.w X.K X.mg X.base n) (tk : Takes X W) {a : Av} (ha : PA X (e :: es) (tA (GK X.K) W (cal n) a)) (hg : Gl X "is_deed" := by rfl) (hl : AvLen a 1 := by repeat (first | exact avl_nil | refine avl_cons ?_))
    (he : starEach (e :: es) X.env = (false, eval e X.env) :: starEach es X.env := by rfl) (hpl : (backTo pos (starEach es X.env)).any (·.1) = false := by rfl) : PE X (.Call (.Name "is_deed" p) (e :: es) [] pos) (tE (GK X.K) W (cal n) (eCall 19 [] a)) := by
  obtain ⟨fd, D, Fo⟩ := C.a_19
  exact x_call Fo hr hu hg Z.g_19 D.kp (D.bindsN fun _ _ _ _ _ _ us hl => match us, hl with | [_], _ => rfl) .nil (fun _ _ _ => RVs.nil) tk ha hl rfl rfl (by decide) he hpl
theorem call_20 (hr : Room n X.A) (hu : X.A.guards = some []) (Z : Fs X.w X.K X.mg) (C : All X.prog X.w X.K X.mg X.base n) (tk : Takes X W) {a : Av} (ha : PA X (e :: es) (tA (GK X.K) W (cal n) a)) (hg : Gl X "is_asker" := by rfl) (hl : AvLen a 1 := by repeat (first | exact avl_nil | refine avl_cons ?_))
    (he : starEach (e :: es) X.env = (false, eval e X.env) :: starEach es X.env := by rfl) (hpl : (backTo pos (starEach es X.env)).any (·.1) = false := by rfl) : PE X (.Call (.Name "is_asker" p) (e :: es) [] pos) (tE (GK X.K) W (cal n) (eCall 20 [] a)) := by
  obtain ⟨fd, D, Fo⟩ := C.a_20
  exact x_call Fo hr hu hg Z.g_20 D.kp (D.bindsN fun _ _ _ _ _ _ us hl => match us, hl with | [_], _ => rfl) .nil (fun _ _ _ => RVs.nil) tk ha hl rfl rfl (by decide) he hpl
theorem call_21 (hr : Room n X.A) (hu : X.A.guards = some []) (Z : Fs X.w X.K X.mg) (C : All X.prog X.w X.K X.mg X.base n) (tk : Takes X W) {a : Av} (ha : PA X (e :: es) (tA (GK X.K) W (cal n) a)) (hg : Gl X "is_ask" := by rfl) (hl : AvLen a 1 := by repeat (first | exact avl_nil | refine avl_cons ?_))
    (he : starEach (e :: es) X.env = (false, eval e X.env) :: starEach es X.env := by rfl) (hpl : (backTo pos (starEach es X.env)).any (·.1) = false := by rfl) : PE X (.Call (.Name "is_ask" p) (e :: es) [] pos) (tE (GK X.K) W (cal n) (eCall 21 [] a)) := by
  obtain ⟨fd, D, Fo⟩ := C.a_21
  exact x_call Fo hr hu hg Z.g_21 D.kp (D.bindsN fun _ _ _ _ _ _ us hl => match us, hl with | [_], _ => rfl) .nil (fun _ _ _ => RVs.nil) tk ha hl rfl rfl (by decide) he hpl
theorem call_22 (hr : Room n X.A) (hu : X.A.guards = some []) (Z : Fs X.w X.K X.mg) (C : All X.prog X.w X.K X.mg X.base n) (tk : Takes X W) {a : Av} (ha : PA X (e :: es) (tA (GK X.K) W (cal n) a)) (hg : Gl X "rises" := by rfl) (hl : AvLen a 1 := by repeat (first | exact avl_nil | refine avl_cons ?_))
    (he : starEach (e :: es) X.env = (false, eval e X.env) :: starEach es X.env := by rfl) (hpl : (backTo pos (starEach es X.env)).any (·.1) = false := by rfl) : PE X (.Call (.Name "rises" p) (e :: es) [] pos) (tE (GK X.K) W (cal n) (eCall 22 [] a)) := by
  obtain ⟨fd, D, Fo⟩ := C.a_22
  exact x_call Fo hr hu hg Z.g_22 D.kp (D.bindsN fun _ _ _ _ _ _ us hl => match us, hl with | [_], _ => rfl) .nil (fun _ _ _ => RVs.nil) tk ha hl rfl rfl (by decide) he hpl
theorem call_23 (hr : Room n X.A) (hu : X.A.guards = some []) (Z : Fs X.w X.K X.mg) (C : All X.prog X.w X.K X.mg X.base n) (tk : Takes X W) {a : Av} (ha : PA X (e :: es) (tA (GK X.K) W (cal n) a)) (hg : Gl X "is_book" := by rfl) (hl : AvLen a 1 := by repeat (first | exact avl_nil | refine avl_cons ?_))
    (he : starEach (e :: es) X.env = (false, eval e X.env) :: starEach es X.env := by rfl) (hpl : (backTo pos (starEach es X.env)).any (·.1) = false := by rfl) : PE X (.Call (.Name "is_book" p) (e :: es) [] pos) (tE (GK X.K) W (cal n) (eCall 23 [] a)) := by
  obtain ⟨fd, D, Fo⟩ := C.a_23
  exact x_call Fo hr hu hg Z.g_23 D.kp (D.bindsN fun _ _ _ _ _ _ us hl => match us, hl with | [_], _ => rfl) .nil (fun _ _ _ => RVs.nil) tk ha hl rfl rfl (by decide) he hpl
theorem call_24 (hr : Room n X.A) (hu : X.A.guards = some []) (Z : Fs X.w X.K X.mg) (C : All X.prog X.w X.K X.mg X.base n) (tk : Takes X W) {a : Av} (ha : PA X (e :: es) (tA (GK X.K) W (cal n) a)) (hg : Gl X "is_answer" := by rfl) (hl : AvLen a 1 := by repeat (first | exact avl_nil | refine avl_cons ?_))
    (he : starEach (e :: es) X.env = (false, eval e X.env) :: starEach es X.env := by rfl) (hpl : (backTo pos (starEach es X.env)).any (·.1) = false := by rfl) : PE X (.Call (.Name "is_answer" p) (e :: es) [] pos) (tE (GK X.K) W (cal n) (eCall 24 [] a)) := by
  obtain ⟨fd, D, Fo⟩ := C.a_24
  exact x_call Fo hr hu hg Z.g_24 D.kp (D.bindsN fun _ _ _ _ _ _ us hl => match us, hl with | [_], _ => rfl) .nil (fun _ _ _ => RVs.nil) tk ha hl rfl rfl (by decide) he hpl
theorem call_25 (hr : Room n X.A) (hu : X.A.guards = some []) (Z : Fs X.w X.K X.mg) (C : All X.prog X.w X.K X.mg X.base n) (tk : Takes X W) {a : Av} (ha : PA X (e :: es) (tA (GK X.K) W (cal n) a)) (hg : Gl X "are_answers" := by rfl) (hl : AvLen a 1 := by repeat (first | exact avl_nil | refine avl_cons ?_))
    (he : starEach (e :: es) X.env = (false, eval e X.env) :: starEach es X.env := by rfl) (hpl : (backTo pos (starEach es X.env)).any (·.1) = false := by rfl) : PE X (.Call (.Name "are_answers" p) (e :: es) [] pos) (tE (GK X.K) W (cal n) (eCall 25 [] a)) := by
  obtain ⟨fd, D, Fo⟩ := C.a_25
  exact x_call Fo hr hu hg Z.g_25 D.kp (D.bindsN fun _ _ _ _ _ _ us hl => match us, hl with | [_], _ => rfl) .nil (fun _ _ _ => RVs.nil) tk ha hl rfl rfl (by decide) he hpl
theorem call_26 (hr : Room n X.A) (hu : X.A.guards = some []) (Z : Fs X.w X.K X.mg) (C : All X.prog X.w X.K X.mg X.base n) (tk : Takes X W) {a : Av} (ha : PA X (e :: es) (tA (GK X.K) W (cal n) a)) (hg : Gl X "is_state" := by rfl) (hl : AvLen a 1 := by repeat (first | exact avl_nil | refine avl_cons ?_))
    (he : starEach (e :: es) X.env = (false, eval e X.env) :: starEach es X.env := by rfl) (hpl : (backTo pos (starEach es X.env)).any (·.1) = false := by rfl) : PE X (.Call (.Name "is_state" p) (e :: es) [] pos) (tE (GK X.K) W (cal n) (eCall 26 [] a)) := by
  obtain ⟨fd, D, Fo⟩ := C.a_26
  exact x_call Fo hr hu hg Z.g_26 D.kp (D.bindsN fun _ _ _ _ _ _ us hl => match us, hl with | [_], _ => rfl) .nil (fun _ _ _ => RVs.nil) tk ha hl rfl rfl (by decide) he hpl
theorem call_27 (hr : Room n X.A) (hu : X.A.guards = some []) (Z : Fs X.w X.K X.mg) (C : All X.prog X.w X.K X.mg X.base n) (tk : Takes X W) {a : Av} (ha : PA X (e :: es) (tA (GK X.K) W (cal n) a)) (hg : Gl X "look_at_state" := by rfl) (hl : AvLen a 1 := by repeat (first | exact avl_nil | refine avl_cons ?_))
    (he : starEach (e :: es) X.env = (false, eval e X.env) :: starEach es X.env := by rfl) (hpl : (backTo pos (starEach es X.env)).any (·.1) = false := by rfl) : PE X (.Call (.Name "look_at_state" p) (e :: es) [] pos) (tE (GK X.K) W (cal n) (eCall 27 [] a)) := by
  obtain ⟨fd, D, Fo⟩ := C.a_27
  exact x_call Fo hr hu hg Z.g_27 D.kp (D.bindsN fun _ _ _ _ _ _ us hl => match us, hl with | [_], _ => rfl) .nil (fun _ _ _ => RVs.nil) tk ha hl rfl rfl (by decide) he hpl
theorem call_155 (hr : Room n X.A) (hu : X.A.guards = some []) (Z : Fs X.w X.K X.mg) (C : All X.prog X.w X.K X.mg X.base n) (tk : Takes X W) {a : Av} (ha : PA X (e :: es) (tA (GK X.K) W (cal n) a)) (hg : Gl X "show_deed" := by rfl) (hl : AvLen a 1 := by repeat (first | exact avl_nil | refine avl_cons ?_))
    (he : starEach (e :: es) X.env = (false, eval e X.env) :: starEach es X.env := by rfl) (hpl : (backTo pos (starEach es X.env)).any (·.1) = false := by rfl) : PE X (.Call (.Name "show_deed" p) (e :: es) [] pos) (tE (GK X.K) W (cal n) (eCall 155 [] a)) := by
  obtain ⟨fd, D, Fo⟩ := C.a_155
  exact x_call Fo hr hu hg Z.g_155 D.kp (D.bindsN fun _ _ _ _ _ _ us hl => match us, hl with | [_], _ => rfl) .nil (fun _ _ _ => RVs.nil) tk ha hl rfl rfl (by decide) he hpl
theorem call_156 (hr : Room n X.A) (hu : X.A.guards = some []) (Z : Fs X.w X.K X.mg) (C : All X.prog X.w X.K X.mg X.base n) (tk : Takes X W) {a : Av} (ha : PA X (e :: es) (tA (GK X.K) W (cal n) a)) (hg : Gl X "show_ask" := by rfl) (hl : AvLen a 1 := by repeat (first | exact avl_nil | refine avl_cons ?_))
    (he : starEach (e :: es) X.env = (false, eval e X.env) :: starEach es X.env := by rfl) (hpl : (backTo pos (starEach es X.env)).any (·.1) = false := by rfl) : PE X (.Call (.Name "show_ask" p) (e :: es) [] pos) (tE (GK X.K) W (cal n) (eCall 156 [] a)) := by
  obtain ⟨fd, D, Fo⟩ := C.a_156
  exact x_call Fo hr hu hg Z.g_156 D.kp (D.bindsN fun _ _ _ _ _ _ us hl => match us, hl with | [_], _ => rfl) .nil (fun _ _ _ => RVs.nil) tk ha hl rfl rfl (by decide) he hpl
theorem call_157 (hr : Room n X.A) (hu : X.A.guards = some []) (Z : Fs X.w X.K X.mg) (C : All X.prog X.w X.K X.mg X.base n) (tk : Takes X W) {a : Av} (ha : PA X (e :: es) (tA (GK X.K) W (cal n) a)) (hg : Gl X "show_row" := by rfl) (hl : AvLen a 1 := by repeat (first | exact avl_nil | refine avl_cons ?_))
    (he : starEach (e :: es) X.env = (false, eval e X.env) :: starEach es X.env := by rfl) (hpl : (backTo pos (starEach es X.env)).any (·.1) = false := by rfl) : PE X (.Call (.Name "show_row" p) (e :: es) [] pos) (tE (GK X.K) W (cal n) (eCall 157 [] a)) := by
  obtain ⟨fd, D, Fo⟩ := C.a_157
  exact x_call Fo hr hu hg Z.g_157 D.kp (D.bindsN fun _ _ _ _ _ _ us hl => match us, hl with | [_], _ => rfl) .nil (fun _ _ _ => RVs.nil) tk ha hl rfl rfl (by decide) he hpl
theorem call_158 (hr : Room n X.A) (hu : X.A.guards = some []) (Z : Fs X.w X.K X.mg) (C : All X.prog X.w X.K X.mg X.base n) (tk : Takes X W) {a : Av} (ha : PA X (e :: es) (tA (GK X.K) W (cal n) a)) (hg : Gl X "show_answer" := by rfl) (hl : AvLen a 1 := by repeat (first | exact avl_nil | refine avl_cons ?_))
    (he : starEach (e :: es) X.env = (false, eval e X.env) :: starEach es X.env := by rfl) (hpl : (backTo pos (starEach es X.env)).any (·.1) = false := by rfl) : PE X (.Call (.Name "show_answer" p) (e :: es) [] pos) (tE (GK X.K) W (cal n) (eCall 158 [] a)) := by
  obtain ⟨fd, D, Fo⟩ := C.a_158
  exact x_call Fo hr hu hg Z.g_158 D.kp (D.bindsN fun _ _ _ _ _ _ us hl => match us, hl with | [_], _ => rfl) .nil (fun _ _ _ => RVs.nil) tk ha hl rfl rfl (by decide) he hpl
theorem call_159 (hr : Room n X.A) (hu : X.A.guards = some []) (Z : Fs X.w X.K X.mg) (C : All X.prog X.w X.K X.mg X.base n) (tk : Takes X W) {a : Av} (ha : PA X (e :: es) (tA (GK X.K) W (cal n) a)) (hg : Gl X "show_state" := by rfl) (hl : AvLen a 1 := by repeat (first | exact avl_nil | refine avl_cons ?_))
    (he : starEach (e :: es) X.env = (false, eval e X.env) :: starEach es X.env := by rfl) (hpl : (backTo pos (starEach es X.env)).any (·.1) = false := by rfl) : PE X (.Call (.Name "show_state" p) (e :: es) [] pos) (tE (GK X.K) W (cal n) (eCall 159 [] a)) := by
  obtain ⟨fd, D, Fo⟩ := C.a_159
  exact x_call Fo hr hu hg Z.g_159 D.kp (D.bindsN fun _ _ _ _ _ _ us hl => match us, hl with | [_], _ => rfl) .nil (fun _ _ _ => RVs.nil) tk ha hl rfl rfl (by decide) he hpl
theorem call_160 (hr : Room n X.A) (hu : X.A.guards = some []) (Z : Fs X.w X.K X.mg) (C : All X.prog X.w X.K X.mg X.base n) (tk : Takes X W) {a : Av} (ha : PA X (e :: es) (tA (GK X.K) W (cal n) a)) (hg : Gl X "figures_in" := by rfl) (hl : AvLen a 1 := by repeat (first | exact avl_nil | refine avl_cons ?_))
    (he : starEach (e :: es) X.env = (false, eval e X.env) :: starEach es X.env := by rfl) (hpl : (backTo pos (starEach es X.env)).any (·.1) = false := by rfl) : PE X (.Call (.Name "figures_in" p) (e :: es) [] pos) (tE (GK X.K) W (cal n) (eCall 160 [] a)) := by
  obtain ⟨fd, D, Fo⟩ := C.a_160
  exact x_call Fo hr hu hg Z.g_160 D.kp (D.bindsN fun _ _ _ _ _ _ us hl => match us, hl with | [_], _ => rfl) .nil (fun _ _ _ => RVs.nil) tk ha hl rfl rfl (by decide) he hpl
theorem call_161 (hr : Room n X.A) (hu : X.A.guards = some []) (Z : Fs X.w X.K X.mg) (C : All X.prog X.w X.K X.mg X.base n) (tk : Takes X W) {a : Av} (ha : PA X (e :: es) (tA (GK X.K) W (cal n) a)) (hg : Gl X "number_in" := by rfl) (hl : AvLen a 1 := by repeat (first | exact avl_nil | refine avl_cons ?_))
    (he : starEach (e :: es) X.env = (false, eval e X.env) :: starEach es X.env := by rfl) (hpl : (backTo pos (starEach es X.env)).any (·.1) = false := by rfl) : PE X (.Call (.Name "number_in" p) (e :: es) [] pos) (tE (GK X.K) W (cal n) (eCall 161 [] a)) := by
  obtain ⟨fd, D, Fo⟩ := C.a_161
  exact x_call Fo hr hu hg Z.g_161 D.kp (D.bindsN fun _ _ _ _ _ _ us hl => match us, hl with | [_], _ => rfl) .nil (fun _ _ _ => RVs.nil) tk ha hl rfl rfl (by decide) he hpl
theorem call_162 (hr : Room n X.A) (hu : X.A.guards = some []) (Z : Fs X.w X.K X.mg) (C : All X.prog X.w X.K X.mg X.base n) (tk : Takes X W) {a : Av} (ha : PA X (e :: es) (tA (GK X.K) W (cal n) a)) (hg : Gl X "two_in" := by rfl) (hl : AvLen a 1 := by repeat (first | exact avl_nil | refine avl_cons ?_))
    (he : starEach (e :: es) X.env = (false, eval e X.env) :: starEach es X.env := by rfl) (hpl : (backTo pos (starEach es X.env)).any (·.1) = false := by rfl) : PE X (.Call (.Name "two_in" p) (e :: es) [] pos) (tE (GK X.K) W (cal n) (eCall 162 [] a)) := by
  obtain ⟨fd, D, Fo⟩ := C.a_162
  exact x_call Fo hr hu hg Z.g_162 D.kp (D.bindsN fun _ _ _ _ _ _ us hl => match us, hl with | [_], _ => rfl) .nil (fun _ _ _ => RVs.nil) tk ha hl rfl rfl (by decide) he hpl
theorem call_163 (hr : Room n X.A) (hu : X.A.guards = some []) (Z : Fs X.w X.K X.mg) (C : All X.prog X.w X.K X.mg X.base n) (tk : Takes X W) {a : Av} (ha : PA X (e :: es) (tA (GK X.K) W (cal n) a)) (hg : Gl X "answer_in" := by rfl) (hl : AvLen a 1 := by repeat (first | exact avl_nil | refine avl_cons ?_))
    (he : starEach (e :: es) X.env = (false, eval e X.env) :: starEach es X.env := by rfl) (hpl : (backTo pos (starEach es X.env)).any (·.1) = false := by rfl) : PE X (.Call (.Name "answer_in" p) (e :: es) [] pos) (tE (GK X.K) W (cal n) (eCall 163 [] a)) := by
  obtain ⟨fd, D, Fo⟩ := C.a_163
  exact x_call Fo hr hu hg Z.g_163 D.kp (D.bindsN fun _ _ _ _ _ _ us hl => match us, hl with | [_], _ => rfl) .nil (fun _ _ _ => RVs.nil) tk ha hl rfl rfl (by decide) he hpl
theorem call_164 (hr : Room n X.A) (hu : X.A.guards = some []) (Z : Fs X.w X.K X.mg) (C : All X.prog X.w X.K X.mg X.base n) (tk : Takes X W) {a : Av} (ha : PA X (e :: es) (tA (GK X.K) W (cal n) a)) (hg : Gl X "deed_in" := by rfl) (hl : AvLen a 1 := by repeat (first | exact avl_nil | refine avl_cons ?_))
    (he : starEach (e :: es) X.env = (false, eval e X.env) :: starEach es X.env := by rfl) (hpl : (backTo pos (starEach es X.env)).any (·.1) = false := by rfl) : PE X (.Call (.Name "deed_in" p) (e :: es) [] pos) (tE (GK X.K) W (cal n) (eCall 164 [] a)) := by
  obtain ⟨fd, D, Fo⟩ := C.a_164
  exact x_call Fo hr hu hg Z.g_164 D.kp (D.bindsN fun _ _ _ _ _ _ us hl => match us, hl with | [_], _ => rfl) .nil (fun _ _ _ => RVs.nil) tk ha hl rfl rfl (by decide) he hpl
theorem call_165 (hr : Room n X.A) (hu : X.A.guards = some []) (Z : Fs X.w X.K X.mg) (C : All X.prog X.w X.K X.mg X.base n) (tk : Takes X W) {a : Av} (ha : PA X (e :: es) (tA (GK X.K) W (cal n) a)) (hg : Gl X "ask_in" := by rfl) (hl : AvLen a 1 := by repeat (first | exact avl_nil | refine avl_cons ?_))
    (he : starEach (e :: es) X.env = (false, eval e X.env) :: starEach es X.env := by rfl) (hpl : (backTo pos (starEach es X.env)).any (·.1) = false := by rfl) : PE X (.Call (.Name "ask_in" p) (e :: es) [] pos) (tE (GK X.K) W (cal n) (eCall 165 [] a)) := by
  obtain ⟨fd, D, Fo⟩ := C.a_165
  exact x_call Fo hr hu hg Z.g_165 D.kp (D.bindsN fun _ _ _ _ _ _ us hl => match us, hl with | [_], _ => rfl) .nil (fun _ _ _ => RVs.nil) tk ha hl rfl rfl (by decide) he hpl
theorem call_166 (hr : Room n X.A) (hu : X.A.guards = some []) (Z : Fs X.w X.K X.mg) (C : All X.prog X.w X.K X.mg X.base n) (tk : Takes X W) {a : Av} (ha : PA X (e :: es) (tA (GK X.K) W (cal n) a)) (hg : Gl X "read_ask" := by rfl) (hl : AvLen a 1 := by repeat (first | exact avl_nil | refine avl_cons ?_))
    (he : starEach (e :: es) X.env = (false, eval e X.env) :: starEach es X.env := by rfl) (hpl : (backTo pos (starEach es X.env)).any (·.1) = false := by rfl) : PE X (.Call (.Name "read_ask" p) (e :: es) [] pos) (tE (GK X.K) W (cal n) (eCall 166 [] a)) := by
  obtain ⟨fd, D, Fo⟩ := C.a_166
  exact x_call Fo hr hu hg Z.g_166 D.kp (D.bindsN fun _ _ _ _ _ _ us hl => match us, hl with | [_], _ => rfl) .nil (fun _ _ _ => RVs.nil) tk ha hl rfl rfl (by decide) he hpl
theorem call_167 (hr : Room n X.A) (hu : X.A.guards = some []) (Z : Fs X.w X.K X.mg) (C : All X.prog X.w X.K X.mg X.base n) (tk : Takes X W) {a : Av} (ha : PA X (e :: es) (tA (GK X.K) W (cal n) a)) (hg : Gl X "deed_of_row" := by rfl) (hl : AvLen a 1 := by repeat (first | exact avl_nil | refine avl_cons ?_))
    (he : starEach (e :: es) X.env = (false, eval e X.env) :: starEach es X.env := by rfl) (hpl : (backTo pos (starEach es X.env)).any (·.1) = false := by rfl) : PE X (.Call (.Name "deed_of_row" p) (e :: es) [] pos) (tE (GK X.K) W (cal n) (eCall 167 [] a)) := by
  obtain ⟨fd, D, Fo⟩ := C.a_167
  exact x_call Fo hr hu hg Z.g_167 D.kp (D.bindsN fun _ _ _ _ _ _ us hl => match us, hl with | [_], _ => rfl) .nil (fun _ _ _ => RVs.nil) tk ha hl rfl rfl (by decide) he hpl
theorem call_168 (hr : Room n X.A) (hu : X.A.guards = some []) (Z : Fs X.w X.K X.mg) (C : All X.prog X.w X.K X.mg X.base n) (tk : Takes X W) {a : Av} (ha : PA X (e :: es) (tA (GK X.K) W (cal n) a)) (hg : Gl X "read_row" := by rfl) (hl : AvLen a 1 := by repeat (first | exact avl_nil | refine avl_cons ?_))
    (he : starEach (e :: es) X.env = (false, eval e X.env) :: starEach es X.env := by rfl) (hpl : (backTo pos (starEach es X.env)).any (·.1) = false := by rfl) : PE X (.Call (.Name "read_row" p) (e :: es) [] pos) (tE (GK X.K) W (cal n) (eCall 168 [] a)) := by
  obtain ⟨fd, D, Fo⟩ := C.a_168
  exact x_call Fo hr hu hg Z.g_168 D.kp (D.bindsN fun _ _ _ _ _ _ us hl => match us, hl with | [_], _ => rfl) .nil (fun _ _ _ => RVs.nil) tk ha hl rfl rfl (by decide) he hpl
theorem call_169 (hr : Room n X.A) (hu : X.A.guards = some []) (Z : Fs X.w X.K X.mg) (C : All X.prog X.w X.K X.mg X.base n) (tk : Takes X W) {a : Av} (ha : PA X (e :: es) (tA (GK X.K) W (cal n) a)) (hg : Gl X "entry_in" := by rfl) (hl : AvLen a 1 := by repeat (first | exact avl_nil | refine avl_cons ?_))
    (he : starEach (e :: es) X.env = (false, eval e X.env) :: starEach es X.env := by rfl) (hpl : (backTo pos (starEach es X.env)).any (·.1) = false := by rfl) : PE X (.Call (.Name "entry_in" p) (e :: es) [] pos) (tE (GK X.K) W (cal n) (eCall 169 [] a)) := by
  obtain ⟨fd, D, Fo⟩ := C.a_169
  exact x_call Fo hr hu hg Z.g_169 D.kp (D.bindsN fun _ _ _ _ _ _ us hl => match us, hl with | [_], _ => rfl) .nil (fun _ _ _ => RVs.nil) tk ha hl rfl rfl (by decide) he hpl
theorem call_170 (hr : Room n X.A) (hu : X.A.guards = some []) (Z : Fs X.w X.K X.mg) (C : All X.prog X.w X.K X.mg X.base n) (tk : Takes X W) {a : Av} (ha : PA X (e :: es) (tA (GK X.K) W (cal n) a)) (hg : Gl X "answer_entry_in" := by rfl) (hl : AvLen a 1 := by repeat (first | exact avl_nil | refine avl_cons ?_))
    (he : starEach (e :: es) X.env = (false, eval e X.env) :: starEach es X.env := by rfl) (hpl : (backTo pos (starEach es X.env)).any (·.1) = false := by rfl) : PE X (.Call (.Name "answer_entry_in" p) (e :: es) [] pos) (tE (GK X.K) W (cal n) (eCall 170 [] a)) := by
  obtain ⟨fd, D, Fo⟩ := C.a_170
  exact x_call Fo hr hu hg Z.g_170 D.kp (D.bindsN fun _ _ _ _ _ _ us hl => match us, hl with | [_], _ => rfl) .nil (fun _ _ _ => RVs.nil) tk ha hl rfl rfl (by decide) he hpl
theorem call_171 (hr : Room n X.A) (hu : X.A.guards = some []) (Z : Fs X.w X.K X.mg) (C : All X.prog X.w X.K X.mg X.base n) (tk : Takes X W) {a : Av} (ha : PA X (e :: es) (tA (GK X.K) W (cal n) a)) (hg : Gl X "book_in" := by rfl) (hl : AvLen a 1 := by repeat (first | exact avl_nil | refine avl_cons ?_))
    (he : starEach (e :: es) X.env = (false, eval e X.env) :: starEach es X.env := by rfl) (hpl : (backTo pos (starEach es X.env)).any (·.1) = false := by rfl) : PE X (.Call (.Name "book_in" p) (e :: es) [] pos) (tE (GK X.K) W (cal n) (eCall 171 [] a)) := by
  obtain ⟨fd, D, Fo⟩ := C.a_171
  exact x_call Fo hr hu hg Z.g_171 D.kp (D.bindsN fun _ _ _ _ _ _ us hl => match us, hl with | [_], _ => rfl) .nil (fun _ _ _ => RVs.nil) tk ha hl rfl rfl (by decide) he hpl
theorem call_172 (hr : Room n X.A) (hu : X.A.guards = some []) (Z : Fs X.w X.K X.mg) (C : All X.prog X.w X.K X.mg X.base n) (tk : Takes X W) {a : Av} (ha : PA X (e :: es) (tA (GK X.K) W (cal n) a)) (hg : Gl X "answers_in" := by rfl) (hl : AvLen a 1 := by repeat (first | exact avl_nil | refine avl_cons ?_))
    (he : starEach (e :: es) X.env = (false, eval e X.env) :: starEach es X.env := by rfl) (hpl : (backTo pos (starEach es X.env)).any (·.1) = false := by rfl) : PE X (.Call (.Name "answers_in" p) (e :: es) [] pos) (tE (GK X.K) W (cal n) (eCall 172 [] a)) := by
  obtain ⟨fd, D, Fo⟩ := C.a_172
  exact x_call Fo hr hu hg Z.g_172 D.kp (D.bindsN fun _ _ _ _ _ _ us hl => match us, hl with | [_], _ => rfl) .nil (fun _ _ _ => RVs.nil) tk ha hl rfl rfl (by decide) he hpl
theorem call_173 (hr : Room n X.A) (hu : X.A.guards = some []) (Z : Fs X.w X.K X.mg) (C : All X.prog X.w X.K X.mg X.base n) (tk : Takes X W) {a : Av} (ha : PA X (e :: es) (tA (GK X.K) W (cal n) a)) (hg : Gl X "members_in" := by rfl) (hl : AvLen a 1 := by repeat (first | exact avl_nil | refine avl_cons ?_))
    (he : starEach (e :: es) X.env = (false, eval e X.env) :: starEach es X.env := by rfl) (hpl : (backTo pos (starEach es X.env)).any (·.1) = false := by rfl) : PE X (.Call (.Name "members_in" p) (e :: es) [] pos) (tE (GK X.K) W (cal n) (eCall 173 [] a)) := by
  obtain ⟨fd, D, Fo⟩ := C.a_173
  exact x_call Fo hr hu hg Z.g_173 D.kp (D.bindsN fun _ _ _ _ _ _ us hl => match us, hl with | [_], _ => rfl) .nil (fun _ _ _ => RVs.nil) tk ha hl rfl rfl (by decide) he hpl
theorem call_174 (hr : Room n X.A) (hu : X.A.guards = some []) (Z : Fs X.w X.K X.mg) (C : All X.prog X.w X.K X.mg X.base n) (tk : Takes X W) {a : Av} (ha : PA X (e :: es) (tA (GK X.K) W (cal n) a)) (hg : Gl X "read_state" := by rfl) (hl : AvLen a 1 := by repeat (first | exact avl_nil | refine avl_cons ?_))
    (he : starEach (e :: es) X.env = (false, eval e X.env) :: starEach es X.env := by rfl) (hpl : (backTo pos (starEach es X.env)).any (·.1) = false := by rfl) : PE X (.Call (.Name "read_state" p) (e :: es) [] pos) (tE (GK X.K) W (cal n) (eCall 174 [] a)) := by
  obtain ⟨fd, D, Fo⟩ := C.a_174
  exact x_call Fo hr hu hg Z.g_174 D.kp (D.bindsN fun _ _ _ _ _ _ us hl => match us, hl with | [_], _ => rfl) .nil (fun _ _ _ => RVs.nil) tk ha hl rfl rfl (by decide) he hpl
theorem call_301 (hr : Room n X.A) (hu : X.A.guards = some []) (Z : Fs X.w X.K X.mg) (C : All X.prog X.w X.K X.mg X.base n) (tk : Takes X W) {a : Av} (ha : PA X (e :: es) (tA (GK X.K) W (cal n) a)) (hg : Gl X "_law_digits" := by rfl) (hl : AvLen a 3 := by repeat (first | exact avl_nil | refine avl_cons ?_))
    (he : starEach (e :: es) X.env = (false, eval e X.env) :: starEach es X.env := by rfl) (hpl : (backTo pos (starEach es X.env)).any (·.1) = false := by rfl) : PE X (.Call (.Name "_law_digits" p) (e :: es) [] pos) (tE (GK X.K) W (cal n) (eCall 301 [] a)) := by
  obtain ⟨fd, D, Fo⟩ := C.a_301
  exact x_call Fo hr hu hg Z.g_301 D.kp (D.bindsN fun _ _ _ _ _ _ us hl => match us, hl with | [_, _, _], _ => rfl) .nil (fun _ _ _ => RVs.nil) tk ha hl rfl rfl (by decide) he hpl
theorem call_302 (hr : Room n X.A) (hu : X.A.guards = some []) (Z : Fs X.w X.K X.mg) (C : All X.prog X.w X.K X.mg X.base n) (tk : Takes X W) {a : Av} (ha : PA X (e :: es) (tA (GK X.K) W (cal n) a)) (hg : Gl X "_law_deed" := by rfl) (hl : AvLen a 1 := by repeat (first | exact avl_nil | refine avl_cons ?_))
    (he : starEach (e :: es) X.env = (false, eval e X.env) :: starEach es X.env := by rfl) (hpl : (backTo pos (starEach es X.env)).any (·.1) = false := by rfl) : PE X (.Call (.Name "_law_deed" p) (e :: es) [] pos) (tE (GK X.K) W (cal n) (eCall 302 [] a)) := by
  obtain ⟨fd, D, Fo⟩ := C.a_302
  exact x_call Fo hr hu hg Z.g_302 D.kp (D.bindsN fun _ _ _ _ _ _ us hl => match us, hl with | [_], _ => rfl) .nil (fun _ _ _ => RVs.nil) tk ha hl rfl rfl (by decide) he hpl
theorem call_303 (hr : Room n X.A) (hu : X.A.guards = some []) (Z : Fs X.w X.K X.mg) (C : All X.prog X.w X.K X.mg X.base n) (tk : Takes X W) {a : Av} (ha : PA X (e :: es) (tA (GK X.K) W (cal n) a)) (hg : Gl X "_law_ask_of" := by rfl) (hl : AvLen a 1 := by repeat (first | exact avl_nil | refine avl_cons ?_))
    (he : starEach (e :: es) X.env = (false, eval e X.env) :: starEach es X.env := by rfl) (hpl : (backTo pos (starEach es X.env)).any (·.1) = false := by rfl) : PE X (.Call (.Name "_law_ask_of" p) (e :: es) [] pos) (tE (GK X.K) W (cal n) (eCall 303 [] a)) := by
  obtain ⟨fd, D, Fo⟩ := C.a_303
  exact x_call Fo hr hu hg Z.g_303 D.kp (D.bindsN fun _ _ _ _ _ _ us hl => match us, hl with | [_], _ => rfl) .nil (fun _ _ _ => RVs.nil) tk ha hl rfl rfl (by decide) he hpl
theorem call_304 (hr : Room n X.A) (hu : X.A.guards = some []) (Z : Fs X.w X.K X.mg) (C : All X.prog X.w X.K X.mg X.base n) (tk : Takes X W) {a : Av} (ha : PA X (e :: es) (tA (GK X.K) W (cal n) a)) (hg : Gl X "_law_ask_text" := by rfl) (hl : AvLen a 1 := by repeat (first | exact avl_nil | refine avl_cons ?_))
    (he : starEach (e :: es) X.env = (false, eval e X.env) :: starEach es X.env := by rfl) (hpl : (backTo pos (starEach es X.env)).any (·.1) = false := by rfl) : PE X (.Call (.Name "_law_ask_text" p) (e :: es) [] pos) (tE (GK X.K) W (cal n) (eCall 304 [] a)) := by
  obtain ⟨fd, D, Fo⟩ := C.a_304
  exact x_call Fo hr hu hg Z.g_304 D.kp (D.bindsN fun _ _ _ _ _ _ us hl => match us, hl with | [_], _ => rfl) .nil (fun _ _ _ => RVs.nil) tk ha hl rfl rfl (by decide) he hpl
theorem call_305 (hr : Room n X.A) (hu : X.A.guards = some []) (Z : Fs X.w X.K X.mg) (C : All X.prog X.w X.K X.mg X.base n) (tk : Takes X W) {a : Av} (ha : PA X (e :: es) (tA (GK X.K) W (cal n) a)) (hg : Gl X "_law_row_text" := by rfl) (hl : AvLen a 1 := by repeat (first | exact avl_nil | refine avl_cons ?_))
    (he : starEach (e :: es) X.env = (false, eval e X.env) :: starEach es X.env := by rfl) (hpl : (backTo pos (starEach es X.env)).any (·.1) = false := by rfl) : PE X (.Call (.Name "_law_row_text" p) (e :: es) [] pos) (tE (GK X.K) W (cal n) (eCall 305 [] a)) := by
  obtain ⟨fd, D, Fo⟩ := C.a_305
  exact x_call Fo hr hu hg Z.g_305 D.kp (D.bindsN fun _ _ _ _ _ _ us hl => match us, hl with | [_], _ => rfl) .nil (fun _ _ _ => RVs.nil) tk ha hl rfl rfl (by decide) he hpl
theorem call_306 (hr : Room n X.A) (hu : X.A.guards = some []) (Z : Fs X.w X.K X.mg) (C : All X.prog X.w X.K X.mg X.base n) (tk : Takes X W) {a : Av} (ha : PA X (e :: es) (tA (GK X.K) W (cal n) a)) (hg : Gl X "_law_word" := by rfl) (hl : AvLen a 1 := by repeat (first | exact avl_nil | refine avl_cons ?_))
    (he : starEach (e :: es) X.env = (false, eval e X.env) :: starEach es X.env := by rfl) (hpl : (backTo pos (starEach es X.env)).any (·.1) = false := by rfl) : PE X (.Call (.Name "_law_word" p) (e :: es) [] pos) (tE (GK X.K) W (cal n) (eCall 306 [] a)) := by
  obtain ⟨fd, D, Fo⟩ := C.a_306
  exact x_call Fo hr hu hg Z.g_306 D.kp (D.bindsN fun _ _ _ _ _ _ us hl => match us, hl with | [_], _ => rfl) .nil (fun _ _ _ => RVs.nil) tk ha hl rfl rfl (by decide) he hpl
theorem call_307 (hr : Room n X.A) (hu : X.A.guards = some []) (Z : Fs X.w X.K X.mg) (C : All X.prog X.w X.K X.mg X.base n) (tk : Takes X W) {a : Av} (ha : PA X (e :: es) (tA (GK X.K) W (cal n) a)) (hg : Gl X "_law_state_text" := by rfl) (hl : AvLen a 1 := by repeat (first | exact avl_nil | refine avl_cons ?_))
    (he : starEach (e :: es) X.env = (false, eval e X.env) :: starEach es X.env := by rfl) (hpl : (backTo pos (starEach es X.env)).any (·.1) = false := by rfl) : PE X (.Call (.Name "_law_state_text" p) (e :: es) [] pos) (tE (GK X.K) W (cal n) (eCall 307 [] a)) := by
  obtain ⟨fd, D, Fo⟩ := C.a_307
  exact x_call Fo hr hu hg Z.g_307 D.kp (D.bindsN fun _ _ _ _ _ _ us hl => match us, hl with | [_], _ => rfl) .nil (fun _ _ _ => RVs.nil) tk ha hl rfl rfl (by decide) he hpl
theorem call_308 (hr : Room n X.A) (hu : X.A.guards = some []) (Z : Fs X.w X.K X.mg) (C : All X.prog X.w X.K X.mg X.base n) (tk : Takes X W) {a : Av} (ha : PA X (e :: es) (tA (GK X.K) W (cal n) a)) (hg : Gl X "_law_row" := by rfl) (hl : AvLen a 1 := by repeat (first | exact avl_nil | refine avl_cons ?_))
    (he : starEach (e :: es) X.env = (false, eval e X.env) :: starEach es X.env := by rfl) (hpl : (backTo pos (starEach es X.env)).any (·.1) = false := by rfl) : PE X (.Call (.Name "_law_row" p) (e :: es) [] pos) (tE (GK X.K) W (cal n) (eCall 308 [] a)) := by
  obtain ⟨fd, D, Fo⟩ := C.a_308
  exact x_call Fo hr hu hg Z.g_308 D.kp (D.bindsN fun _ _ _ _ _ _ us hl => match us, hl with | [_], _ => rfl) .nil (fun _ _ _ => RVs.nil) tk ha hl rfl rfl (by decide) he hpl
theorem call_309 (hr : Room n X.A) (hu : X.A.guards = some []) (Z : Fs X.w X.K X.mg) (C : All X.prog X.w X.K X.mg X.base n) (tk : Takes X W) {a : Av} (ha : PA X (e :: es) (tA (GK X.K) W (cal n) a)) (hg : Gl X "_law_state" := by rfl) (hl : AvLen a 1 := by repeat (first | exact avl_nil | refine avl_cons ?_))
    (he : starEach (e :: es) X.env = (false, eval e X.env) :: starEach es X.env := by rfl) (hpl : (backTo pos (starEach es X.env)).any (·.1) = false := by rfl) : PE X (.Call (.Name "_law_state" p) (e :: es) [] pos) (tE (GK X.K) W (cal n) (eCall 309 [] a)) := by
  obtain ⟨fd, D, Fo⟩ := C.a_309
  exact x_call Fo hr hu hg Z.g_309 D.kp (D.bindsN fun _ _ _ _ _ _ us hl => match us, hl with | [_], _ => rfl) .nil (fun _ _ _ => RVs.nil) tk ha hl rfl rfl (by decide) he hpl
theorem call_310 (hr : Room n X.A) (hu : X.A.guards = some []) (Z : Fs X.w X.K X.mg) (C : All X.prog X.w X.K X.mg X.base n) (tk : Takes X W) {a : Av} (ha : PA X (e :: es) (tA (GK X.K) W (cal n) a)) (hg : Gl X "_law_refused" := by rfl) (hl : AvLen a 1 := by repeat (first | exact avl_nil | refine avl_cons ?_))
    (he : starEach (e :: es) X.env = (false, eval e X.env) :: starEach es X.env := by rfl) (hpl : (backTo pos (starEach es X.env)).any (·.1) = false := by rfl) : PE X (.Call (.Name "_law_refused" p) (e :: es) [] pos) (tE (GK X.K) W (cal n) (eCall 310 [] a)) := by
  obtain ⟨fd, D, Fo⟩ := C.a_310
  exact x_call Fo hr hu hg Z.g_310 D.kp (D.bindsN fun _ _ _ _ _ _ us hl => match us, hl with | [_], _ => rfl) .nil (fun _ _ _ => RVs.nil) tk ha hl rfl rfl (by decide) he hpl
theorem call_311 (hr : Room n X.A) (hu : X.A.guards = some []) (Z : Fs X.w X.K X.mg) (C : All X.prog X.w X.K X.mg X.base n) (tk : Takes X W) {a : Av} (ha : PA X (e :: es) (tA (GK X.K) W (cal n) a)) (hg : Gl X "_law_right" := by rfl) (hl : AvLen a 3 := by repeat (first | exact avl_nil | refine avl_cons ?_))
    (he : starEach (e :: es) X.env = (false, eval e X.env) :: starEach es X.env := by rfl) (hpl : (backTo pos (starEach es X.env)).any (·.1) = false := by rfl) : PE X (.Call (.Name "_law_right" p) (e :: es) [] pos) (tE (GK X.K) W (cal n) (eCall 311 [] a)) := by
  obtain ⟨fd, D, Fo⟩ := C.a_311
  exact x_call Fo hr hu hg Z.g_311 D.kp (D.bindsN fun _ _ _ _ _ _ us hl => match us, hl with | [_, _, _], _ => rfl) .nil (fun _ _ _ => RVs.nil) tk ha hl rfl rfl (by decide) he hpl
theorem call_312 (hr : Room n X.A) (hu : X.A.guards = some []) (Z : Fs X.w X.K X.mg) (C : All X.prog X.w X.K X.mg X.base n) (tk : Takes X W) (hg : Gl X "_law_signs_right" := by rfl) : PE X (.Call (.Name "_law_signs_right" p) [] [] pos) (tE (GK X.K) W (cal n) (eCall 312 [] aNil)) := by
  obtain ⟨fd, D, Fo⟩ := C.a_312
  exact x_call0 Fo hr hu hg Z.g_312 D.kp (D.bindsN fun _ _ _ _ _ _ us hl => match us, hl with | [], _ => rfl) .nil (fun _ _ _ => RVs.nil) tk rfl (by decide)
theorem call_313 (hr : Room n X.A) (hu : X.A.guards = some []) (Z : Fs X.w X.K X.mg) (C : All X.prog X.w X.K X.mg X.base n) (tk : Takes X W) {a : Av} (ha : PA X (e :: es) (tA (GK X.K) W (cal n) a)) (hg : Gl X "law" := by rfl) (hl : AvLen a 1 := by repeat (first | exact avl_nil | refine avl_cons ?_))
    (he : starEach (e :: es) X.env = (false, eval e X.env) :: starEach es X.env := by rfl) (hpl : (backTo pos (starEach es X.env)).any (·.1) = false := by rfl) : PE X (.Call (.Name "law" p) (e :: es) [] pos) (tE (GK X.K) W (cal n) (eCall 313 [] a)) := by
  obtain ⟨fd, D, Fo⟩ := C.a_313
  exact x_call Fo hr hu hg Z.g_313 D.kp (D.bindsN fun _ _ _ _ _ _ us hl => match us, hl with | [_], _ => rfl) .nil (fun _ _ _ => RVs.nil) tk ha hl rfl rfl (by decide) he hpl
theorem cv_171_172_173 {P : Program} (C : All P w K mg base n) : ∀ j ∈ [171, 172, 173], ∃ (fd : FuncData) (ps : List Str), FnG P w K mg base n ((GK K).fa j) fd ps (spC (GK K) (cal n) j 1) ∧ Binds K fd ps [] ∧ PySem.W.keepIn K (.ref ((GK K).fa j)) = true := by
  intro j hj
  simp only [List.mem_cons, List.not_mem_nil, or_false] at hj
  rcases hj with rfl | rfl | rfl
  · obtain ⟨fd, D, Fo⟩ := C.a_171
    exact ⟨fd, P_171, Fo, D.bindsN fun _ _ _ _ _ _ us hl => match us, hl with | [_], _ => rfl, D.kp⟩
  · obtain ⟨fd, D, Fo⟩ := C.a_172
    exact ⟨fd, P_172, Fo, D.bindsN fun _ _ _ _ _ _ us hl => match us, hl with | [_], _ => rfl, D.kp⟩
  · obtain ⟨fd, D, Fo⟩ := C.a_173
    exact ⟨fd, P_173, Fo, D.bindsN fun _ _ _ _ _ _ us hl => match us, hl with | [_], _ => rfl, D.kp⟩
theorem callk_10_least (hr : Room n X.A) (hu : X.A.guards = some []) (Z : Fs X.w X.K X.mg) (C : All X.prog X.w X.K X.mg X.base n) (tk : Takes X W) {kws : List Keyword} {a ka : Av} (ha : PA X (e :: es) (tA (GK X.K) W (cal n) a)) (hka : PK X kws (tKw (GK X.K) W (cal n) ka)) (hg : Gl X "is_from" := by rfl) (hl : AvLen a 1 := by repeat (first | exact avl_nil | refine avl_cons ?_)) (hkl : AvLen ka 1 := by repeat (first | exact avl_nil | refine avl_cons ?_))
    (hall : (backToKw pos (keywordEach kws X.env)).all (·.1.isSome) = true := by rfl) (hks : (backToKw pos (keywordEach kws X.env)).filterMap (·.1) = (["least"] : List Str) := by rfl) (he : starEach (e :: es) X.env = (false, eval e X.env) :: starEach es X.env := by rfl)
    (hpl : ((backTo pos (starEach (e :: es) X.env)).any (·.1) || (backToKw pos (keywordEach kws X.env)).any (·.1.isNone)) = false := by rfl) : PE X (.Call (.Name "is_from" p) (e :: es) kws pos) (tE (GK X.K) W (cal n) (eCallK 10 mg_10_least a ka)) := by
  obtain ⟨fd, D, Fo⟩ := C.a_10
  obtain ⟨mv, hb⟩ := kb0 (ps := P_10) D 1 (["least"] : List Str) ([("most", V.int (1000000000))] : List (Str × V)) (fun us mv ws => us ++ ((ws.drop 0).take 1 ++ ((mv.drop 0).take 1))) (by simp [He.DefD.kws]) (by simp [He.DefD.kws, He.Dv.v]) (fun r1 r2 r3 => r1.append (((r3.drop 0).take 1).append ((r2.drop 0).take 1)))
    (fun _ _ _ _ _ _ us mv ws h1 h2 h3 => match us, h1, mv, h2, ws, h3 with | [_], _, [_], _, [_], _ => ⟨_, _, _, _, _, _, rfl, rfl, rfl⟩)
  exact x_callK Fo hr hu hg Z.g_10 D.kp hb (fun _ _ _ ds es vs zs r1 r3 => r1.app ((((r3).drop 0).take 1).app (RVs.one (by first | (simp only [RV]; done) | (simp only [RV]; rfl))))) tk ha hka hl hkl (fun ds es h1 h2 => by have h2 : es.length = 1 := h2; simp [mg_10_least, h1, h2]) hall hks (by decide) he hpl
theorem callk_10_least_most (hr : Room n X.A) (hu : X.A.guards = some []) (Z : Fs X.w X.K X.mg) (C : All X.prog X.w X.K X.mg X.base n) (tk : Takes X W) {kws : List Keyword} {a ka : Av} (ha : PA X (e :: es) (tA (GK X.K) W (cal n) a)) (hka : PK X kws (tKw (GK X.K) W (cal n) ka)) (hg : Gl X "is_from" := by rfl) (hl : AvLen a 1 := by repeat (first | exact avl_nil | refine avl_cons ?_)) (hkl : AvLen ka 2 := by repeat (first | exact avl_nil | refine avl_cons ?_))
    (hall : (backToKw pos (keywordEach kws X.env)).all (·.1.isSome) = true := by rfl) (hks : (backToKw pos (keywordEach kws X.env)).filterMap (·.1) = (["least", "most"] : List Str) := by rfl) (he : starEach (e :: es) X.env = (false, eval e X.env) :: starEach es X.env := by rfl)
    (hpl : ((backTo pos (starEach (e :: es) X.env)).any (·.1) || (backToKw pos (keywordEach kws X.env)).any (·.1.isNone)) = false := by rfl) : PE X (.Call (.Name "is_from" p) (e :: es) kws pos) (tE (GK X.K) W (cal n) (eCallK 10 mg_10_least_most a ka)) := by
  obtain ⟨fd, D, Fo⟩ := C.a_10
  obtain ⟨mv, hb⟩ := kb0 (ps := P_10) D 1 (["least", "most"] : List Str) ([] : List (Str × V)) (fun us mv ws => us ++ ((ws.drop 0).take 1 ++ ((ws.drop 1).take 1))) (by simp [He.DefD.kws]) (by simp [He.DefD.kws, He.Dv.v]) (fun r1 r2 r3 => r1.append (((r3.drop 0).take 1).append ((r3.drop 1).take 1)))
    (fun _ _ _ _ _ _ us mv ws h1 h2 h3 => match us, h1, mv, h2, ws, h3 with | [_], _, [], _, [_, _], _ => rfl)
  exact x_callK Fo hr hu hg Z.g_10 D.kp hb (fun _ _ _ ds es vs zs r1 r3 => r1.app ((((r3).drop 0).take 1).app (((r3).drop 1).take 1))) tk ha hka hl hkl (fun ds es h1 h2 => by have h2 : es.length = 2 := h2; simp [mg_10_least_most, h1, h2]) hall hks (by decide) he hpl
theorem callk_10_most (hr : Room n X.A) (hu : X.A.guards = some []) (Z : Fs X.w X.K X.mg) (C : All X.prog X.w X.K X.mg X.base n) (tk : Takes X W) {kws : List Keyword} {a ka : Av} (ha : PA X (e :: es) (tA (GK X.K) W (cal n) a)) (hka : PK X kws (tKw (GK X.K) W (cal n) ka)) (hg : Gl X "is_from" := by rfl) (hl : AvLen a 1 := by repeat (first | exact avl_nil | refine avl_cons ?_)) (hkl : AvLen ka 1 := by repeat (first | exact avl_nil | refine avl_cons ?_))
    (hall : (backToKw pos (keywordEach kws X.env)).all (·.1.isSome) = true := by rfl) (hks : (backToKw pos (keywordEach kws X.env)).filterMap (·.1) = (["most"] : List Str) := by rfl) (he : starEach (e :: es) X.env = (false, eval e X.env) :: starEach es X.env := by rfl)
    (hpl : ((backTo pos (starEach (e :: es) X.env)).any (·.1) || (backToKw pos (keywordEach kws X.env)).any (·.1.isNone)) = false := by rfl) : PE X (.Call (.Name "is_from" p) (e :: es) kws pos) (tE (GK X.K) W (cal n) (eCallK 10 mg_10_most a ka)) := by
  obtain ⟨fd, D, Fo⟩ := C.a_10
  obtain ⟨mv, hb⟩ := kb0 (ps := P_10) D 1 (["most"] : List Str) ([("least", V.int (0))] : List (Str × V)) (fun us mv ws => us ++ ((mv.drop 0).take 1 ++ ((ws.drop 0).take 1))) (by simp [He.DefD.kws]) (by simp [He.DefD.kws, He.Dv.v]) (fun r1 r2 r3 => r1.append (((r2.drop 0).take 1).append ((r3.drop 0).take 1)))
    (fun _ _ _ _ _ _ us mv ws h1 h2 h3 => match us, h1, mv, h2, ws, h3 with | [_], _, [_], _, [_], _ => ⟨_, _, _, _, _, _, rfl, rfl, rfl⟩)
  exact x_callK Fo hr hu hg Z.g_10 D.kp hb (fun _ _ _ ds es vs zs r1 r3 => r1.app ((RVs.one (by first | (simp only [RV]; done) | (simp only [RV]; rfl))).app (((r3).drop 0).take 1))) tk ha hka hl hkl (fun ds es h1 h2 => by have h2 : es.length = 1 := h2; simp [mg_10_most, h1, h2]) hall hks (by decide) he hpl
end
end Ev
set_option Elab.async false
set_option linter.all false
set_option maxRecDepth 100000
set_option maxHeartbeats 0
namespace Ev
open PySem PySem.Spec PyProof.Rows L2

section
variable {P : Program} {w : World} {K : PySem.W.Frag} {mg : Str → Option Value} {base : Heap} {n : Nat} {fd : FuncData}
theorem ok_9 (Z : Fs w K mg) (C : All P w K mg base n) (D : FunD K (d_9).name (d_9).qual (d_9).params (d_9).body (d_9).scope ((d_9).dvs K) ((d_9).kws K) ((GK K).fa 9) fd) : FnG P w K mg base (n + 1) ((GK K).fa 9) fd P_9 (spC (GK K) (cal (n + 1)) 9 (P_9).length) :=
  fnG_of (b := b_is_whole) (N := N_9) (ps := P_9) D sc_9 rfl (fun _ _ => rfl) fun cdv A out s H E hr hu tk po =>
  have h64 := hr.units
  have h65 := h65_ hr
  (x_cons (x_ret (x_and (x_is (T := .int) rfl (by decide) rfl Z.b_isinstance rfl Z.b_int (by decide +kernel) (v_ 0)) (x_one (x_not (x_is (T := .bl) rfl (by decide) rfl Z.b_isinstance rfl Z.b_bool (by decide +kernel) (v_ 0))))))
 x_nil)
theorem ok_10 (Z : Fs w K mg) (C : All P w K mg base n) (D : FunD K (d_10).name (d_10).qual (d_10).params (d_10).body (d_10).scope ((d_10).dvs K) ((d_10).kws K) ((GK K).fa 10) fd) : FnG P w K mg base (n + 1) ((GK K).fa 10) fd P_10 (spC (GK K) (cal (n + 1)) 10 (P_10).length) :=
  fnG_of (b := b_is_from) (N := N_10) (ps := P_10) D sc_10 rfl (fun _ _ => rfl) fun cdv A out s H E hr hu tk po =>
  have h64 := hr.units
  have h65 := h65_ hr
  (x_cons (x_ret (x_and (call_9 hr hu Z C tk (x_acons (v_ 0) x_anil)) (x_one (chle_ (v_ 1) (v_ 0) (v_ 2)))))
 x_nil)
theorem ok_11 (Z : Fs w K mg) (C : All P w K mg base n) (D : FunD K (d_11).name (d_11).qual (d_11).params (d_11).body (d_11).scope ((d_11).dvs K) ((d_11).kws K) ((GK K).fa 11) fd) : FnG P w K mg base (n + 1) ((GK K).fa 11) fd P_11 (spC (GK K) (cal (n + 1)) 11 (P_11).length) :=
  fnG_of (b := b_is_house) (N := N_11) (ps := P_11) D sc_11 rfl (fun _ _ => rfl) fun cdv A out s H E hr hu tk po =>
  have h64 := hr.units
  have h65 := h65_ hr
  (x_cons (x_ret (callk_10_most hr hu Z C tk (x_acons (v_ 0) x_anil) (x_kcons (x_gint rfl Z.c_MOST_HOUSE) x_knil)))
 x_nil)
theorem ok_12 (Z : Fs w K mg) (C : All P w K mg base n) (D : FunD K (d_12).name (d_12).qual (d_12).params (d_12).body (d_12).scope ((d_12).dvs K) ((d_12).kws K) ((GK K).fa 12) fd) : FnG P w K mg base (n + 1) ((GK K).fa 12) fd P_12 (spC (GK K) (cal (n + 1)) 12 (P_12).length) :=
  fnG_of (b := b_is_members) (N := N_12) (ps := P_12) D sc_12 rfl (fun _ _ => rfl) fun cdv A out s H E hr hu tk po =>
  have h64 := hr.units
  have h65 := h65_ hr
  (x_cons (x_if' (x_tpw (x_tor (x_tnot (x_tval (x_is (T := .tup) rfl (by decide) rfl Z.b_isinstance rfl Z.b_tuple (by decide +kernel) (v_ 0)))) (x_tor1 (x_tnot (tchle_ x_int (x_callB cr_len bLen_ok rfl Z.b_len (by decide +kernel) (x_acons (v_ 0) x_anil)) (x_gint rfl Z.c_MOST_MEMBERS))))))
 (x_cons (x_ret x_bl)
 x_nil)
 x_nil)
 (x_cons (x_ret (x_and (x_callB (cr_all rfl) bAll_ok rfl Z.b_all (by decide +kernel) (x_acons (x_lc (own := [("one", 1)]) rfl rfl rfl tk rfl nd_12 (x_ival rfl (v_ 0)) (blk_ (N := N_12) (sc := d_12.scope) rfl rfl (by decide +kernel)) (fun _ _ _ _ _ _ => (gn_ 1 nd_12)) (fun _ _ _ _ _ _ _ tk => x_ts0) (fun _ _ _ _ _ _ _ tk => (call_11 hr hu Z C tk (x_acons (v_ 1) x_anil)))) x_anil)) (x_one (eq_ rfl h64 (x_lenSc (own := [("one", 1)]) rfl rfl Z.b_len rfl rfl tk rfl nd_12 (x_ival rfl (v_ 0)) (blk_ (N := N_12) (sc := d_12.scope) rfl rfl (by decide +kernel)) (fun _ _ _ _ _ _ => (gn_ 1 nd_12)) (fun _ _ _ _ _ _ _ tk => x_ts0) (fun _ _ _ _ _ _ _ tk => (v_ 1))) (x_callB cr_len bLen_ok rfl Z.b_len (by decide +kernel) (x_acons (v_ 0) x_anil))))))
 x_nil))
theorem ok_18 (Z : Fs w K mg) (C : All P w K mg base n) (D : FunD K (d_18).name (d_18).qual (d_18).params (d_18).body (d_18).scope ((d_18).dvs K) ((d_18).kws K) ((GK K).fa 18) fd) : FnG P w K mg base (n + 1) ((GK K).fa 18) fd P_18 (spC (GK K) (cal (n + 1)) 18 (P_18).length) :=
  fnG_of (b := b_is_name) (N := N_18) (ps := P_18) D sc_18 rfl (fun _ _ => rfl) fun cdv A out s H E hr hu tk po =>
  have h64 := hr.units
  have h65 := h65_ hr
  (x_cons (x_ret (x_and (x_is (T := .str) rfl (by decide) rfl Z.b_isinstance rfl Z.b_str (by decide +kernel) (v_ 0)) (x_and (chle_ x_int (x_callB cr_len bLen_ok rfl Z.b_len (by decide +kernel) (x_acons (v_ 0) x_anil)) (x_gint rfl Z.c_MOST_NAME)) (x_one (x_callB (cr_all rfl) bAll_ok rfl Z.b_all (by decide +kernel) (x_acons (x_lc (own := [("sign", 1)]) rfl rfl rfl tk rfl nd_18 (x_ival rfl (v_ 0)) (blk_ (N := N_18) (sc := d_18.scope) rfl rfl (by decide +kernel)) (fun _ _ _ _ _ _ => (gn_ 1 nd_18)) (fun _ _ _ _ _ _ _ tk => x_ts0) (fun _ _ _ _ _ _ _ tk => (in_ rfl h65 (v_ 1) (x_gstr rfl Z.c_LETTERS)))) x_anil))))))
 x_nil)
theorem ok_19 (Z : Fs w K mg) (C : All P w K mg base n) (D : FunD K (d_19).name (d_19).qual (d_19).params (d_19).body (d_19).scope ((d_19).dvs K) ((d_19).kws K) ((GK K).fa 19) fd) : FnG P w K mg base (n + 1) ((GK K).fa 19) fd P_19 (spC (GK K) (cal (n + 1)) 19 (P_19).length) :=
  fnG_of (b := b_is_deed) (N := N_19) (ps := P_19) D sc_19 rfl (fun _ _ => rfl) fun cdv A out s H E hr hu tk po =>
  have h64 := hr.units
  have h65 := h65_ hr
  (x_cons (x_if' (x_tpw (x_tor (x_tnot (x_tval (x_is (T := .tup) rfl (by decide) rfl Z.b_isinstance rfl Z.b_tuple (by decide +kernel) (v_ 0)))) (x_tor (tlt_ (x_callB cr_len bLen_ok rfl Z.b_len (by decide +kernel) (x_acons (v_ 0) x_anil)) x_int) (x_tor1 (x_tnot (x_tval (x_is (T := .str) rfl (by decide) rfl Z.b_isinstance rfl Z.b_str (by decide +kernel) (ix_ rfl h65 (v_ 0) x_int))))))))
 (x_cons (x_ret x_bl)
 x_nil)
 x_nil)
 (x_cons (x_asg (v_ 0) (x_gstar rfl rfl (x_gscons (gn_ 1 nd_19) (x_gsstar (gn_ 2 nd_19) x_gsnil))))
 (x_cons (x_if' (tin_ rfl h65 (v_ 1) (x_tup (x_acons s_ (x_acons s_ x_anil))))
 (x_cons (x_ret (x_and (eq_ rfl h64 (x_callB cr_len bLen_ok rfl Z.b_len (by decide +kernel) (x_acons (v_ 2) x_anil)) x_int) (x_and (call_18 hr hu Z C tk (x_acons (ix_ rfl h65 (v_ 2) x_int) x_anil)) (x_one (callk_10_least_most hr hu Z C tk (x_acons (ix_ rfl h65 (v_ 2) x_int) x_anil) (x_kcons (x_sub x_int (x_gint rfl Z.c_MOST_VALUE)) (x_kcons (x_gint rfl Z.c_MOST_VALUE) x_knil)))))))
 x_nil)
 x_nil)
 (x_cons (x_if' (teq_ rfl h64 (v_ 1) s_)
 (x_cons (x_ret (x_and (eq_ rfl h64 (x_callB cr_len bLen_ok rfl Z.b_len (by decide +kernel) (x_acons (v_ 2) x_anil)) x_int) (x_one (call_18 hr hu Z C tk (x_acons (ix_ rfl h65 (v_ 2) x_int) x_anil)))))
 x_nil)
 x_nil)
 (x_cons (x_if' (x_tpw (x_tor (tne_ rfl h64 (v_ 1) s_) (x_tor1 (tne_ rfl h64 (x_callB cr_len bLen_ok rfl Z.b_len (by decide +kernel) (x_acons (v_ 2) x_anil)) x_int))))
 (x_cons (x_ret x_bl)
 x_nil)
 x_nil)
 (x_cons (x_ret (x_and (call_11 hr hu Z C tk (x_acons (ix_ rfl h65 (v_ 2) x_int) x_anil)) (x_and (call_11 hr hu Z C tk (x_acons (ix_ rfl h65 (v_ 2) x_int) x_anil)) (x_one (ne_ rfl h64 (ix_ rfl h65 (v_ 2) x_int) (ix_ rfl h65 (v_ 2) x_int))))))
 x_nil))))))
theorem ok_20 (Z : Fs w K mg) (C : All P w K mg base n) (D : FunD K (d_20).name (d_20).qual (d_20).params (d_20).body (d_20).scope ((d_20).dvs K) ((d_20).kws K) ((GK K).fa 20) fd) : FnG P w K mg base (n + 1) ((GK K).fa 20) fd P_20 (spC (GK K) (cal (n + 1)) 20 (P_20).length) :=
  fnG_of (b := b_is_asker) (N := N_20) (ps := P_20) D sc_20 rfl (fun _ _ => rfl) fun cdv A out s H E hr hu tk po =>
  have h64 := hr.units
  have h65 := h65_ hr
  (x_cons (x_ret (callk_10_most hr hu Z C tk (x_acons (v_ 0) x_anil) (x_kcons (x_gint rfl Z.c_MOST_ASKER) x_knil)))
 x_nil)
theorem ok_21 (Z : Fs w K mg) (C : All P w K mg base n) (D : FunD K (d_21).name (d_21).qual (d_21).params (d_21).body (d_21).scope ((d_21).dvs K) ((d_21).kws K) ((GK K).fa 21) fd) : FnG P w K mg base (n + 1) ((GK K).fa 21) fd P_21 (spC (GK K) (cal (n + 1)) 21 (P_21).length) :=
  fnG_of (b := b_is_ask) (N := N_21) (ps := P_21) D sc_21 rfl (fun _ _ => rfl) fun cdv A out s H E hr hu tk po =>
  have h64 := hr.units
  have h65 := h65_ hr
  (x_cons (x_if' (x_tpw (x_tor (x_tnot (x_tval (x_is (T := .tup) rfl (by decide) rfl Z.b_isinstance rfl Z.b_tuple (by decide +kernel) (v_ 0)))) (x_tor1 (tne_ rfl h64 (x_callB cr_len bLen_ok rfl Z.b_len (by decide +kernel) (x_acons (v_ 0) x_anil)) x_int))))
 (x_cons (x_ret x_bl)
 x_nil)
 x_nil)
 (x_cons (x_ret (x_and (call_20 hr hu Z C tk (x_acons (ix_ rfl h65 (v_ 0) x_int) x_anil)) (x_and (callk_10_least hr hu Z C tk (x_acons (ix_ rfl h65 (v_ 0) x_int) x_anil) (x_kcons x_int x_knil)) (x_one (call_19 hr hu Z C tk (x_acons (ix_ rfl h65 (v_ 0) x_int) x_anil))))))
 x_nil))
theorem ok_22 (Z : Fs w K mg) (C : All P w K mg base n) (D : FunD K (d_22).name (d_22).qual (d_22).params (d_22).body (d_22).scope ((d_22).dvs K) ((d_22).kws K) ((GK K).fa 22) fd) : FnG P w K mg base (n + 1) ((GK K).fa 22) fd P_22 (spC (GK K) (cal (n + 1)) 22 (P_22).length) :=
  fnG_of (b := b_rises) (N := N_22) (ps := P_22) D sc_22 rfl (fun _ _ => rfl) fun cdv A out s H E hr hu tk po =>
  have h64 := hr.units
  have h65 := h65_ hr
  (x_cons (x_ret (x_callB (cr_all rfl) bAll_ok rfl Z.b_all (by decide +kernel) (x_acons (x_lc (own := [("one", 1), ("other", 2)]) rfl rfl rfl tk rfl nd_22 (x_izip rfl rfl Z.b_zip (x_acons (v_ 0) (x_acons (x_sl rfl (v_ 0) (x_opart x_int) x_ono) x_anil))) (blk_ (N := N_22) (sc := d_22.scope) rfl rfl (by decide +kernel)) (fun _ _ _ _ _ _ => (x_gtup rfl rfl (x_gscons (gn_ 1 nd_22) (x_gscons (gn_ 2 nd_22) x_gsnil)))) (fun _ _ _ _ _ _ _ tk => x_ts0) (fun _ _ _ _ _ _ _ tk => (lt_ (v_ 1) (v_ 2)))) x_anil)))
 x_nil)
theorem ok_23 (Z : Fs w K mg) (C : All P w K mg base n) (D : FunD K (d_23).name (d_23).qual (d_23).params (d_23).body (d_23).scope ((d_23).dvs K) ((d_23).kws K) ((GK K).fa 23) fd) : FnG P w K mg base (n + 1) ((GK K).fa 23) fd P_23 (spC (GK K) (cal (n + 1)) 23 (P_23).length) :=
  fnG_of (b := b_is_book) (N := N_23) (ps := P_23) D sc_23 rfl (fun _ _ => rfl) fun cdv A out s H E hr hu tk po =>
  have h64 := hr.units
  have h65 := h65_ hr
  (x_cons (x_if' (x_tnot (x_tval (x_is (T := .tup) rfl (by decide) rfl Z.b_isinstance rfl Z.b_tuple (by decide +kernel) (v_ 0))))
 (x_cons (x_ret x_bl)
 x_nil)
 x_nil)
 (x_cons (x_for po rfl (x_ival rfl (v_ 0)) (gn_ 1 nd_23)
 (x_cons (x_if' (x_tpw (x_tor (x_tnot (x_tval (x_is (T := .tup) rfl (by decide) rfl Z.b_isinstance rfl Z.b_tuple (by decide +kernel) (v_ 1)))) (x_tor (tne_ rfl h64 (x_callB cr_len bLen_ok rfl Z.b_len (by decide +kernel) (x_acons (v_ 1) x_anil)) x_int) (x_tor (x_tnot (x_tval (call_18 hr hu Z C tk (x_acons (ix_ rfl h65 (v_ 1) x_int) x_anil)))) (x_tor1 (x_tnot (x_tval (call_9 hr hu Z C tk (x_acons (ix_ rfl h65 (v_ 1) x_int) x_anil)))))))))
 (x_cons (x_ret x_bl)
 x_nil)
 x_nil)
 x_nil))
 (x_cons (x_ret (call_22 hr hu Z C tk (x_acons (x_lc (own := [("entry", 1)]) rfl rfl rfl tk rfl nd_23 (x_ival rfl (v_ 0)) (blk_ (N := N_23) (sc := d_23.scope) rfl rfl (by decide +kernel)) (fun _ _ _ _ _ _ => (gn_ 1 nd_23)) (fun _ _ _ _ _ _ _ tk => x_ts0) (fun _ _ _ _ _ _ _ tk => (ix_ rfl h65 (v_ 1) x_int))) x_anil)))
 x_nil)))
theorem ok_24 (Z : Fs w K mg) (C : All P w K mg base n) (D : FunD K (d_24).name (d_24).qual (d_24).params (d_24).body (d_24).scope ((d_24).dvs K) ((d_24).kws K) ((GK K).fa 24) fd) : FnG P w K mg base (n + 1) ((GK K).fa 24) fd P_24 (spC (GK K) (cal (n + 1)) 24 (P_24).length) :=
  fnG_of (b := b_is_answer) (N := N_24) (ps := P_24) D sc_24 rfl (fun _ _ => rfl) fun cdv A out s H E hr hu tk po =>
  have h64 := hr.units
  have h65 := h65_ hr
  (x_cons (x_ret (x_or (is_ (v_ 0) x_non) (x_one (x_is (T := .int) rfl (by decide) rfl Z.b_isinstance rfl Z.b_int (by decide +kernel) (v_ 0)))))
 x_nil)
theorem ok_25 (Z : Fs w K mg) (C : All P w K mg base n) (D : FunD K (d_25).name (d_25).qual (d_25).params (d_25).body (d_25).scope ((d_25).dvs K) ((d_25).kws K) ((GK K).fa 25) fd) : FnG P w K mg base (n + 1) ((GK K).fa 25) fd P_25 (spC (GK K) (cal (n + 1)) 25 (P_25).length) :=
  fnG_of (b := b_are_answers) (N := N_25) (ps := P_25) D sc_25 rfl (fun _ _ => rfl) fun cdv A out s H E hr hu tk po =>
  have h64 := hr.units
  have h65 := h65_ hr
  (x_cons (x_if' (x_tnot (x_tval (x_is (T := .tup) rfl (by decide) rfl Z.b_isinstance rfl Z.b_tuple (by decide +kernel) (v_ 0))))
 (x_cons (x_ret x_bl)
 x_nil)
 x_nil)
 (x_cons (x_for po rfl (x_ival rfl (v_ 0)) (gn_ 1 nd_25)
 (x_cons (x_if' (x_tpw (x_tor (x_tnot (x_tval (x_is (T := .tup) rfl (by decide) rfl Z.b_isinstance rfl Z.b_tuple (by decide +kernel) (v_ 1)))) (x_tor (tne_ rfl h64 (x_callB cr_len bLen_ok rfl Z.b_len (by decide +kernel) (x_acons (v_ 1) x_anil)) x_int) (x_tor1 (x_tnot (x_tval (call_20 hr hu Z C tk (x_acons (ix_ rfl h65 (v_ 1) x_int) x_anil))))))))
 (x_cons (x_ret x_bl)
 x_nil)
 x_nil)
 (x_cons (x_if' (x_tpw (x_tor (x_tnot (x_tval (callk_10_least hr hu Z C tk (x_acons (ix_ rfl h65 (v_ 1) x_int) x_anil) (x_kcons x_int x_knil)))) (x_tor1 (x_tnot (x_tval (call_24 hr hu Z C tk (x_acons (ix_ rfl h65 (v_ 1) x_int) x_anil)))))))
 (x_cons (x_ret x_bl)
 x_nil)
 x_nil)
 x_nil)))
 (x_cons (x_ret (call_22 hr hu Z C tk (x_acons (x_lc (own := [("entry", 1)]) rfl rfl rfl tk rfl nd_25 (x_ival rfl (v_ 0)) (blk_ (N := N_25) (sc := d_25.scope) rfl rfl (by decide +kernel)) (fun _ _ _ _ _ _ => (gn_ 1 nd_25)) (fun _ _ _ _ _ _ _ tk => x_ts0) (fun _ _ _ _ _ _ _ tk => (ix_ rfl h65 (v_ 1) x_int))) x_anil)))
 x_nil)))
theorem ok_26 (Z : Fs w K mg) (C : All P w K mg base n) (D : FunD K (d_26).name (d_26).qual (d_26).params (d_26).body (d_26).scope ((d_26).dvs K) ((d_26).kws K) ((GK K).fa 26) fd) : FnG P w K mg base (n + 1) ((GK K).fa 26) fd P_26 (spC (GK K) (cal (n + 1)) 26 (P_26).length) :=
  fnG_of (b := b_is_state) (N := N_26) (ps := P_26) D sc_26 rfl (fun _ _ => rfl) fun cdv A out s H E hr hu tk po =>
  have h64 := hr.units
  have h65 := h65_ hr
  (x_cons (x_if' (x_tpw (x_tor (x_tnot (x_tval (x_is (T := .tup) rfl (by decide) rfl Z.b_isinstance rfl Z.b_tuple (by decide +kernel) (v_ 0)))) (x_tor1 (tne_ rfl h64 (x_callB cr_len bLen_ok rfl Z.b_len (by decide +kernel) (x_acons (v_ 0) x_anil)) x_int))))
 (x_cons (x_ret x_bl)
 x_nil)
 x_nil)
 (x_cons (x_ret (x_and (call_23 hr hu Z C tk (x_acons (ix_ rfl h65 (v_ 0) x_int) x_anil)) (x_and (call_25 hr hu Z C tk (x_acons (ix_ rfl h65 (v_ 0) x_int) x_anil)) (x_one (call_12 hr hu Z C tk (x_acons (ix_ rfl h65 (v_ 0) x_int) x_anil))))))
 x_nil))
theorem ok_27 (Z : Fs w K mg) (C : All P w K mg base n) (D : FunD K (d_27).name (d_27).qual (d_27).params (d_27).body (d_27).scope ((d_27).dvs K) ((d_27).kws K) ((GK K).fa 27) fd) : FnG P w K mg base (n + 1) ((GK K).fa 27) fd P_27 (spC (GK K) (cal (n + 1)) 27 (P_27).length) :=
  fnG_of (b := b_look_at_state) (N := N_27) (ps := P_27) D sc_27 rfl (fun _ _ => rfl) fun cdv A out s H E hr hu tk po =>
  have h64 := hr.units
  have h65 := h65_ hr
  (x_cons (x_if' (x_tnot (x_tval (call_26 hr hu Z C tk (x_acons (v_ 0) x_anil))))
 (x_cons (x_raise (k := 2) rfl tk rfl Z.x_NoState.1 Z.gc_NoState Z.x_NoState.2.1 Z.x_NoState.2.2.1 Z.x_NoState.2.2.2 rfl)
 x_nil)
 x_nil)
 x_nil)
theorem ok_155 (Z : Fs w K mg) (C : All P w K mg base n) (D : FunD K (d_155).name (d_155).qual (d_155).params (d_155).body (d_155).scope ((d_155).dvs K) ((d_155).kws K) ((GK K).fa 155) fd) : FnG P w K mg base (n + 1) ((GK K).fa 155) fd P_155 (spC (GK K) (cal (n + 1)) 155 (P_155).length) :=
  fnG_of (b := b_show_deed) (N := N_155) (ps := P_155) D sc_155 rfl (fun _ _ => rfl) fun cdv A out s H E hr hu tk po =>
  have h64 := hr.units
  have h65 := h65_ hr
  (x_cons (x_ret (x_bm rfl F.plainAttrs_str F.slot_str_join F.type_str_join mt_join ty_str mJoin_ok s_ (x_acons (x_lc (own := [("one", 1)]) rfl rfl rfl tk rfl nd_155 (x_ival rfl (v_ 0)) (blk_ (N := N_155) (sc := d_155.scope) rfl rfl (by decide +kernel)) (fun _ _ _ _ _ _ => (gn_ 1 nd_155)) (fun _ _ _ _ _ _ _ tk => x_ts0) (fun _ _ _ _ _ _ _ tk => (x_callTy cr_str bStr_ok rfl Z.b_str (by decide +kernel) (x_acons (v_ 1) x_anil)))) x_anil)))
 x_nil)
theorem ok_156 (Z : Fs w K mg) (C : All P w K mg base n) (D : FunD K (d_156).name (d_156).qual (d_156).params (d_156).body (d_156).scope ((d_156).dvs K) ((d_156).kws K) ((GK K).fa 156) fd) : FnG P w K mg base (n + 1) ((GK K).fa 156) fd P_156 (spC (GK K) (cal (n + 1)) 156 (P_156).length) :=
  fnG_of (b := b_show_ask) (N := N_156) (ps := P_156) D sc_156 rfl (fun _ _ => rfl) fun cdv A out s H E hr hu tk po =>
  have h64 := hr.units
  have h65 := h65_ hr
  (x_cons (x_if' (tis_ (v_ 0) x_non)
 (x_cons (x_ret (x_gstr rfl Z.c_NONE))
 x_nil)
 x_nil)
 (x_cons (x_if' (x_tnot (x_tval (call_21 hr hu Z C tk (x_acons (v_ 0) x_anil))))
 (x_cons (x_raise (k := 6) rfl tk rfl Z.x_NoAsk.1 Z.gc_NoAsk Z.x_NoAsk.2.1 Z.x_NoAsk.2.2.1 Z.x_NoAsk.2.2.2 rfl)
 x_nil)
 x_nil)
 (x_cons (x_asg (v_ 0) (x_gtup rfl rfl (x_gscons (gn_ 1 nd_156) (x_gscons (gn_ 2 nd_156) (x_gscons (gn_ 3 nd_156) x_gsnil)))))
 (x_cons (x_ret (x_joined (pj_cons (x_fmt (v_ 1)) (pj_cons s_ (pj_cons (x_fmt (v_ 2)) (pj_cons s_ (pj_cons (x_fmt (call_155 hr hu Z C tk (x_acons (v_ 3) x_anil))) pj_nil)))))))
 x_nil))))
theorem ok_157 (Z : Fs w K mg) (C : All P w K mg base n) (D : FunD K (d_157).name (d_157).qual (d_157).params (d_157).body (d_157).scope ((d_157).dvs K) ((d_157).kws K) ((GK K).fa 157) fd) : FnG P w K mg base (n + 1) ((GK K).fa 157) fd P_157 (spC (GK K) (cal (n + 1)) 157 (P_157).length) :=
  fnG_of (b := b_show_row) (N := N_157) (ps := P_157) D sc_157 rfl (fun _ _ => rfl) fun cdv A out s H E hr hu tk po =>
  have h64 := hr.units
  have h65 := h65_ hr
  (x_cons (x_ret (x_bm rfl F.plainAttrs_str F.slot_str_join F.type_str_join mt_join ty_str mJoin_ok s_ (x_acons (x_lc (own := [("age", 1), ("number", 2), ("ask", 3)]) rfl rfl rfl tk rfl nd_157 (x_ival rfl (v_ 0)) (blk_ (N := N_157) (sc := d_157.scope) rfl rfl (by decide +kernel)) (fun _ _ _ _ _ _ => (x_gtup rfl rfl (x_gscons (gn_ 1 nd_157) (x_gscons (gn_ 2 nd_157) (x_gscons (gn_ 3 nd_157) x_gsnil))))) (fun _ _ _ _ _ _ _ tk => x_ts0) (fun _ _ _ _ _ _ _ tk => (x_joined (pj_cons (x_fmt (v_ 1)) (pj_cons s_ (pj_cons (x_fmt (v_ 2)) (pj_cons s_ (pj_cons (x_fmt (call_156 hr hu Z C tk (x_acons (v_ 3) x_anil))) pj_nil)))))))) x_anil)))
 x_nil)
theorem ok_158 (Z : Fs w K mg) (C : All P w K mg base n) (D : FunD K (d_158).name (d_158).qual (d_158).params (d_158).body (d_158).scope ((d_158).dvs K) ((d_158).kws K) ((GK K).fa 158) fd) : FnG P w K mg base (n + 1) ((GK K).fa 158) fd P_158 (spC (GK K) (cal (n + 1)) 158 (P_158).length) :=
  fnG_of (b := b_show_answer) (N := N_158) (ps := P_158) D sc_158 rfl (fun _ _ => rfl) fun cdv A out s H E hr hu tk po =>
  have h64 := hr.units
  have h65 := h65_ hr
  (x_cons (x_if' (tis_ (v_ 0) x_non)
 (x_cons (x_ret (x_gstr rfl Z.c_NONE))
 x_nil)
 x_nil)
 (x_cons (x_if' (x_tval (x_is (T := .bl) rfl (by decide) rfl Z.b_isinstance rfl Z.b_bool (by decide +kernel) (v_ 0)))
 (x_cons (x_ret (x_if (x_tval (v_ 0)) s_ s_))
 x_nil)
 x_nil)
 (x_cons (x_ret (x_callTy cr_str bStr_ok rfl Z.b_str (by decide +kernel) (x_acons (v_ 0) x_anil)))
 x_nil)))
theorem ok_159 (Z : Fs w K mg) (C : All P w K mg base n) (D : FunD K (d_159).name (d_159).qual (d_159).params (d_159).body (d_159).scope ((d_159).dvs K) ((d_159).kws K) ((GK K).fa 159) fd) : FnG P w K mg base (n + 1) ((GK K).fa 159) fd P_159 (spC (GK K) (cal (n + 1)) 159 (P_159).length) :=
  fnG_of (b := b_show_state) (N := N_159) (ps := P_159) D sc_159 rfl (fun _ _ => rfl) fun cdv A out s H E hr hu tk po =>
  have h64 := hr.units
  have h65 := h65_ hr
  (x_cons (x_expr (call_27 hr hu Z C tk (x_acons (v_ 0) x_anil)))
 (x_cons (x_asg (v_ 0) (x_gtup rfl rfl (x_gscons (gn_ 1 nd_159) (x_gscons (gn_ 2 nd_159) (x_gscons (gn_ 3 nd_159) x_gsnil)))))
 (x_cons (set_ 4 nd_159 (x_lst (x_acons (x_add rfl (x_lst (x_acons s_ x_anil)) (x_lc (own := [("name", 5), ("value", 6)]) rfl rfl rfl tk rfl nd_159 (x_ival rfl (v_ 1)) (blk_ (N := N_159) (sc := d_159.scope) rfl rfl (by decide +kernel)) (fun _ _ _ _ _ _ => (x_gtup rfl rfl (x_gscons (gn_ 5 nd_159) (x_gscons (gn_ 6 nd_159) x_gsnil)))) (fun _ _ _ _ _ _ _ tk => x_ts0) (fun _ _ _ _ _ _ _ tk => (x_joined (pj_cons (x_fmt (v_ 5)) (pj_cons s_ (pj_cons (x_fmt (v_ 6)) pj_nil))))))) x_anil)))
 (x_cons (x_expr (x_bm rfl F.plainAttrs_list F.slot_list_append F.type_list_append mt_append ty_list mAppend_ok (v_ 4) (x_acons (x_add rfl (x_lst (x_acons s_ x_anil)) (x_lc (own := [("asker", 7), ("stamp", 8), ("answer", 9)]) rfl rfl rfl tk rfl nd_159 (x_ival rfl (v_ 2)) (blk_ (N := N_159) (sc := d_159.scope) rfl rfl (by decide +kernel)) (fun _ _ _ _ _ _ => (x_gtup rfl rfl (x_gscons (gn_ 7 nd_159) (x_gscons (gn_ 8 nd_159) (x_gscons (gn_ 9 nd_159) x_gsnil))))) (fun _ _ _ _ _ _ _ tk => x_ts0) (fun _ _ _ _ _ _ _ tk => (x_joined (pj_cons (x_fmt (v_ 7)) (pj_cons s_ (pj_cons (x_fmt (v_ 8)) (pj_cons s_ (pj_cons (x_fmt (call_158 hr hu Z C tk (x_acons (v_ 9) x_anil))) pj_nil))))))))) x_anil)))
 (x_cons (x_expr (x_bm rfl F.plainAttrs_list F.slot_list_append F.type_list_append mt_append ty_list mAppend_ok (v_ 4) (x_acons (x_add rfl (x_lst (x_acons s_ x_anil)) (x_lc (own := [("house", 10)]) rfl rfl rfl tk rfl nd_159 (x_ival rfl (v_ 3)) (blk_ (N := N_159) (sc := d_159.scope) rfl rfl (by decide +kernel)) (fun _ _ _ _ _ _ => (gn_ 10 nd_159)) (fun _ _ _ _ _ _ _ tk => x_ts0) (fun _ _ _ _ _ _ _ tk => (x_callTy cr_str bStr_ok rfl Z.b_str (by decide +kernel) (x_acons (v_ 10) x_anil))))) x_anil)))
 (x_cons (x_ret (x_bm rfl F.plainAttrs_str F.slot_str_join F.type_str_join mt_join ty_str mJoin_ok s_ (x_acons (x_lc (own := [("words", 11)]) rfl rfl rfl tk rfl nd_159 (x_ival rfl (v_ 4)) (blk_ (N := N_159) (sc := d_159.scope) rfl rfl (by decide +kernel)) (fun _ _ _ _ _ _ => (gn_ 11 nd_159)) (fun _ _ _ _ _ _ _ tk => x_ts0) (fun _ _ _ _ _ _ _ tk => (x_bm rfl F.plainAttrs_str F.slot_str_join F.type_str_join mt_join ty_str mJoin_ok s_ (x_acons (v_ 11) x_anil)))) x_anil)))
 x_nil))))))
theorem ok_160 (Z : Fs w K mg) (C : All P w K mg base n) (D : FunD K (d_160).name (d_160).qual (d_160).params (d_160).body (d_160).scope ((d_160).dvs K) ((d_160).kws K) ((GK K).fa 160) fd) : FnG P w K mg base (n + 1) ((GK K).fa 160) fd P_160 (spC (GK K) (cal (n + 1)) 160 (P_160).length) :=
  fnG_of (b := b_figures_in) (N := N_160) (ps := P_160) D sc_160 rfl (fun _ _ => rfl) fun cdv A out s H E hr hu tk po =>
  have h64 := hr.units
  have h65 := h65_ hr
  (x_cons (x_if' (x_tpw (x_tor (x_tnot (tchle_ x_int (x_callB cr_len bLen_ok rfl Z.b_len (by decide +kernel) (x_acons (v_ 0) x_anil)) (x_gint rfl Z.c_MOST_FIGURES))) (x_tor1 (x_tnot (x_tval (x_callB (cr_all rfl) bAll_ok rfl Z.b_all (by decide +kernel) (x_acons (x_lc (own := [("sign", 1)]) rfl rfl rfl tk rfl nd_160 (x_ival rfl (v_ 0)) (blk_ (N := N_160) (sc := d_160.scope) rfl rfl (by decide +kernel)) (fun _ _ _ _ _ _ => (gn_ 1 nd_160)) (fun _ _ _ _ _ _ _ tk => x_ts0) (fun _ _ _ _ _ _ _ tk => (in_ rfl h65 (v_ 1) (x_gstr rfl Z.c_FIGURES)))) x_anil)))))))
 (x_cons (x_ret x_non)
 x_nil)
 x_nil)
 (x_cons (x_ret (x_if (x_tpw (x_tand (tne_ rfl h64 (v_ 0) s_) (x_tand1 (x_tval (x_bm rfl F.plainAttrs_str F.slot_str_startswith F.type_str_startswith mt_startswith ty_str mStarts_ok (v_ 0) (x_acons s_ x_anil)))))) x_non (x_callTy cr_int bInt_ok rfl Z.b_int (by decide +kernel) (x_acons (v_ 0) x_anil))))
 x_nil))
theorem ok_161 (Z : Fs w K mg) (C : All P w K mg base n) (D : FunD K (d_161).name (d_161).qual (d_161).params (d_161).body (d_161).scope ((d_161).dvs K) ((d_161).kws K) ((GK K).fa 161) fd) : FnG P w K mg base (n + 1) ((GK K).fa 161) fd P_161 (spC (GK K) (cal (n + 1)) 161 (P_161).length) :=
  fnG_of (b := b_number_in) (N := N_161) (ps := P_161) D sc_161 rfl (fun _ _ => rfl) fun cdv A out s H E hr hu tk po =>
  have h64 := hr.units
  have h65 := h65_ hr
  (x_cons (x_if' (x_tnot (x_tval (x_bm rfl F.plainAttrs_str F.slot_str_startswith F.type_str_startswith mt_startswith ty_str mStarts_ok (v_ 0) (x_acons s_ x_anil))))
 (x_cons (x_ret (call_160 hr hu Z C tk (x_acons (v_ 0) x_anil)))
 x_nil)
 x_nil)
 (x_cons (set_ 1 nd_161 (call_160 hr hu Z C tk (x_acons (x_sl rfl (v_ 0) (x_opart x_int) x_ono) x_anil)))
 (x_cons (x_ret (x_if (x_tpw (x_tor (tis_ (v_ 1) x_non) (x_tor1 (teq_ rfl h64 (v_ 1) x_int)))) x_non (x_sub x_int (v_ 1))))
 x_nil)))
theorem ok_162 (Z : Fs w K mg) (C : All P w K mg base n) (D : FunD K (d_162).name (d_162).qual (d_162).params (d_162).body (d_162).scope ((d_162).dvs K) ((d_162).kws K) ((GK K).fa 162) fd) : FnG P w K mg base (n + 1) ((GK K).fa 162) fd P_162 (spC (GK K) (cal (n + 1)) 162 (P_162).length) :=
  fnG_of (b := b_two_in) (N := N_162) (ps := P_162) D sc_162 rfl (fun _ _ => rfl) fun cdv A out s H E hr hu tk po =>
  have h64 := hr.units
  have h65 := h65_ hr
  (x_cons (x_asg (x_bm rfl F.plainAttrs_str F.slot_str_partition F.type_str_partition mt_partition ty_str mPart_ok (v_ 0) (x_acons s_ x_anil)) (x_gtup rfl rfl (x_gscons (gn_ 1 nd_162) (x_gscons (gn_ 2 nd_162) (x_gscons (gn_ 3 nd_162) x_gsnil)))))
 (x_cons (x_ret (x_tup (x_acons (call_160 hr hu Z C tk (x_acons (v_ 1) x_anil)) (x_acons (call_160 hr hu Z C tk (x_acons (v_ 3) x_anil)) x_anil))))
 x_nil))
theorem ok_163 (Z : Fs w K mg) (C : All P w K mg base n) (D : FunD K (d_163).name (d_163).qual (d_163).params (d_163).body (d_163).scope ((d_163).dvs K) ((d_163).kws K) ((GK K).fa 163) fd) : FnG P w K mg base (n + 1) ((GK K).fa 163) fd P_163 (spC (GK K) (cal (n + 1)) 163 (P_163).length) :=
  fnG_of (b := b_answer_in) (N := N_163) (ps := P_163) D sc_163 rfl (fun _ _ => rfl) fun cdv A out s H E hr hu tk po =>
  have h64 := hr.units
  have h65 := h65_ hr
  (x_cons (x_if' (x_tkdin rfl Z.t_TRUTHS Z.d_TRUTHS (v_ 0) (x_gdict rfl Z.k_TRUTHS))
 (x_cons (x_ret (x_lst (x_acons (x_kdix rfl Z.t_TRUTHS Z.d_TRUTHS (x_gdict rfl Z.k_TRUTHS) (v_ 0)) x_anil)))
 x_nil)
 x_nil)
 (x_cons (set_ 1 nd_163 (call_161 hr hu Z C tk (x_acons (v_ 0) x_anil)))
 (x_cons (x_ret (x_if (tis_ (v_ 1) x_non) (x_lst x_anil) (x_lst (x_acons (v_ 1) x_anil))))
 x_nil)))
theorem ok_164 (Z : Fs w K mg) (C : All P w K mg base n) (D : FunD K (d_164).name (d_164).qual (d_164).params (d_164).body (d_164).scope ((d_164).dvs K) ((d_164).kws K) ((GK K).fa 164) fd) : FnG P w K mg base (n + 1) ((GK K).fa 164) fd P_164 (spC (GK K) (cal (n + 1)) 164 (P_164).length) :=
  fnG_of (b := b_deed_in) (N := N_164) (ps := P_164) D sc_164 rfl (fun _ _ => rfl) fun cdv A out s H E hr hu tk po =>
  have h64 := hr.units
  have h65 := h65_ hr
  (x_cons (x_asg (v_ 0) (x_gstar rfl rfl (x_gscons (gn_ 1 nd_164) (x_gsstar (gn_ 2 nd_164) x_gsnil))))
 (x_cons (x_setLc (i := 3) (own := [("one", 4)]) rfl rfl rfl tk rfl nd_164 rfl rfl (sw_true rfl rfl rfl rfl) (x_ival rfl (v_ 2)) (blk_ (N := N_164) (sc := d_164.scope) rfl rfl (by decide +kernel)) (fun _ _ _ _ _ _ => (gn_ 4 nd_164)) (fun _ _ _ _ _ _ _ tk => x_ts0) (fun _ _ _ _ _ _ _ tk => (call_161 hr hu Z C tk (x_acons (v_ 4) x_anil))))
 (x_cons (x_if' (x_tpw (x_tand (tin_ rfl h65 (v_ 1) (x_tup (x_acons s_ (x_acons s_ (x_acons s_ x_anil))))) (x_tand1 (tne_ rfl h64 (v_ 2) (x_lst x_anil)))))
 (x_cons (set_ 5 nd_164 (x_add rfl (x_tup (x_acons (v_ 1) (x_acons (ix_ rfl h65 (v_ 2) x_int) x_anil))) (x_callTy call_tuple_of bTup_ok rfl Z.b_tuple (by decide +kernel) (x_acons (x_sl rfl (v_ 3) (x_opart x_int) x_ono) x_anil))))
 x_nil)
 (x_cons (set_ 5 nd_164 (x_add rfl (x_tup (x_acons (v_ 1) x_anil)) (x_callTy call_tuple_of bTup_ok rfl Z.b_tuple (by decide +kernel) (x_acons (v_ 3) x_anil))))
 x_nil))
 (x_cons (x_ret (x_if (x_tval (call_19 hr hu Z C tk (x_acons (v_ 5) x_anil))) (v_ 5) x_non))
 x_nil))))
theorem ok_165 (Z : Fs w K mg) (C : All P w K mg base n) (D : FunD K (d_165).name (d_165).qual (d_165).params (d_165).body (d_165).scope ((d_165).dvs K) ((d_165).kws K) ((GK K).fa 165) fd) : FnG P w K mg base (n + 1) ((GK K).fa 165) fd P_165 (spC (GK K) (cal (n + 1)) 165 (P_165).length) :=
  fnG_of (b := b_ask_in) (N := N_165) (ps := P_165) D sc_165 rfl (fun _ _ => rfl) fun cdv A out s H E hr hu tk po =>
  have h64 := hr.units
  have h65 := h65_ hr
  (x_cons (x_if' (teq_ rfl h64 (v_ 0) (x_gstr rfl Z.c_NONE))
 (x_cons (x_ret (x_lst (x_acons x_non x_anil)))
 x_nil)
 x_nil)
 (x_cons (x_asg (x_bm rfl F.plainAttrs_str F.slot_str_split F.type_str_split mt_split ty_str mSplit_ok (v_ 0) (x_acons s_ x_anil)) (x_gstar rfl rfl (x_gscons (gn_ 1 nd_165) (x_gsstar (gn_ 2 nd_165) x_gsnil))))
 (x_cons (x_if' (teq_ rfl h64 (v_ 2) (x_lst x_anil))
 (x_cons (x_ret (x_lst x_anil))
 x_nil)
 x_nil)
 (x_cons (set_ 3 nd_165 (x_add rfl (call_162 hr hu Z C tk (x_acons (v_ 1) x_anil)) (x_tup (x_acons (call_164 hr hu Z C tk (x_acons (v_ 2) x_anil)) x_anil))))
 (x_cons (x_ret (x_if (x_tval (call_21 hr hu Z C tk (x_acons (v_ 3) x_anil))) (x_lst (x_acons (v_ 3) x_anil)) (x_lst x_anil)))
 x_nil)))))
theorem ok_166 (Z : Fs w K mg) (C : All P w K mg base n) (D : FunD K (d_166).name (d_166).qual (d_166).params (d_166).body (d_166).scope ((d_166).dvs K) ((d_166).kws K) ((GK K).fa 166) fd) : FnG P w K mg base (n + 1) ((GK K).fa 166) fd P_166 (spC (GK K) (cal (n + 1)) 166 (P_166).length) :=
  fnG_of (b := b_read_ask) (N := N_166) (ps := P_166) D sc_166 rfl (fun _ _ => rfl) fun cdv A out s H E hr hu tk po =>
  have h64 := hr.units
  have h65 := h65_ hr
  (x_cons (set_ 1 nd_166 (x_if (x_tval (x_is (T := .str) rfl (by decide) rfl Z.b_isinstance rfl Z.b_str (by decide +kernel) (v_ 0))) (call_165 hr hu Z C tk (x_acons (v_ 0) x_anil)) (x_lst x_anil)))
 (x_cons (x_if' (teq_ rfl h64 (v_ 1) (x_lst x_anil))
 (x_cons x_never
 x_nil)
 x_nil)
 (x_cons (x_ret (ix_ rfl h65 (v_ 1) x_int))
 x_nil)))
theorem ok_167 (Z : Fs w K mg) (C : All P w K mg base n) (D : FunD K (d_167).name (d_167).qual (d_167).params (d_167).body (d_167).scope ((d_167).dvs K) ((d_167).kws K) ((GK K).fa 167) fd) : FnG P w K mg base (n + 1) ((GK K).fa 167) fd P_167 (spC (GK K) (cal (n + 1)) 167 (P_167).length) :=
  fnG_of (b := b_deed_of_row) (N := N_167) (ps := P_167) D sc_167 rfl (fun _ _ => rfl) fun cdv A out s H E hr hu tk po =>
  have h64 := hr.units
  have h65 := h65_ hr
  (x_cons (x_asg (x_bm rfl F.plainAttrs_str F.slot_str_partition F.type_str_partition mt_partition ty_str mPart_ok (v_ 0) (x_acons s_ x_anil)) (x_gtup rfl rfl (x_gscons (gn_ 1 nd_167) (x_gscons (gn_ 2 nd_167) (x_gscons (gn_ 3 nd_167) x_gsnil)))))
 (x_cons (x_asg (call_162 hr hu Z C tk (x_acons (v_ 1) x_anil)) (x_gtup rfl rfl (x_gscons (gn_ 4 nd_167) (x_gscons (gn_ 5 nd_167) x_gsnil))))
 (x_cons (set_ 6 nd_167 (call_165 hr hu Z C tk (x_acons (v_ 3) x_anil)))
 (x_cons (x_if' (x_tpw (x_tor (x_tnot (x_tval (calld_10 hr hu Z C tk (x_acons (v_ 4) x_anil)))) (x_tor (x_tnot (x_tval (callk_10_most hr hu Z C tk (x_acons (v_ 5) x_anil) (x_kcons (x_gint rfl Z.c_MOST_PLACE) x_knil)))) (x_tor1 (teq_ rfl h64 (v_ 6) (x_lst x_anil))))))
 (x_cons (x_ret x_non)
 x_nil)
 x_nil)
 (x_cons (x_ret (x_tup (x_acons (v_ 4) (x_acons (v_ 5) (x_acons (ix_ rfl h65 (v_ 6) x_int) x_anil)))))
 x_nil)))))
theorem ok_168 (Z : Fs w K mg) (C : All P w K mg base n) (D : FunD K (d_168).name (d_168).qual (d_168).params (d_168).body (d_168).scope ((d_168).dvs K) ((d_168).kws K) ((GK K).fa 168) fd) : FnG P w K mg base (n + 1) ((GK K).fa 168) fd P_168 (spC (GK K) (cal (n + 1)) 168 (P_168).length) :=
  fnG_of (b := b_read_row) (N := N_168) (ps := P_168) D sc_168 rfl (fun _ _ => rfl) fun cdv A out s H E hr hu tk po =>
  have h64 := hr.units
  have h65 := h65_ hr
  (x_cons (x_if' (x_tnot (x_tval (x_is (T := .str) rfl (by decide) rfl Z.b_isinstance rfl Z.b_str (by decide +kernel) (v_ 0))))
 (x_cons x_never
 x_nil)
 x_nil)
 (x_cons (set_ 1 nd_168 (x_lst x_anil))
 (x_cons (set_ 2 nd_168 (x_if (tne_ rfl h64 (v_ 0) s_) (x_bm rfl F.plainAttrs_str F.slot_str_split F.type_str_split mt_split ty_str mSplit_ok (v_ 0) (x_acons s_ x_anil)) (x_lst x_anil)))
 (x_cons (x_for po rfl (x_ienm rfl rfl Z.b_enumerate (x_acons (v_ 2) x_anil)) (x_gtup rfl rfl (x_gscons (gn_ 3 nd_168) (x_gscons (gn_ 4 nd_168) x_gsnil)))
 (x_cons (set_ 5 nd_168 (call_167 hr hu Z C tk (x_acons (v_ 4) x_anil)))
 (x_cons (x_if' (x_tpw (x_tor (tis_ (v_ 5) x_non) (x_tor1 (x_tpw (x_tand (tne_ rfl h64 (v_ 1) (x_lst x_anil)) (x_tand1 (tleT_ rfl h64 (x_sl rfl (v_ 5) x_ono (x_opart x_int)) (x_sl rfl (ix_ rfl h65 (v_ 1) (x_neg x_int)) x_ono (x_opart x_int)))))))))
 (x_cons x_never
 x_nil)
 x_nil)
 (x_cons (x_expr (x_bm rfl F.plainAttrs_list F.slot_list_append F.type_list_append mt_append ty_list mAppend_ok (v_ 1) (x_acons (v_ 5) x_anil)))
 x_nil))))
 (x_cons (x_ret (v_ 1))
 x_nil)))))
theorem ok_169 (Z : Fs w K mg) (C : All P w K mg base n) (D : FunD K (d_169).name (d_169).qual (d_169).params (d_169).body (d_169).scope ((d_169).dvs K) ((d_169).kws K) ((GK K).fa 169) fd) : FnG P w K mg base (n + 1) ((GK K).fa 169) fd P_169 (spC (GK K) (cal (n + 1)) 169 (P_169).length) :=
  fnG_of (b := b_entry_in) (N := N_169) (ps := P_169) D sc_169 rfl (fun _ _ => rfl) fun cdv A out s H E hr hu tk po =>
  have h64 := hr.units
  have h65 := h65_ hr
  (x_cons (x_asg (x_bm rfl F.plainAttrs_str F.slot_str_partition F.type_str_partition mt_partition ty_str mPart_ok (v_ 0) (x_acons s_ x_anil)) (x_gtup rfl rfl (x_gscons (gn_ 1 nd_169) (x_gscons (gn_ 2 nd_169) (x_gscons (gn_ 3 nd_169) x_gsnil)))))
 (x_cons (x_ret (x_tup (x_acons (v_ 1) (x_acons (call_161 hr hu Z C tk (x_acons (v_ 3) x_anil)) x_anil))))
 x_nil))
theorem ok_170 (Z : Fs w K mg) (C : All P w K mg base n) (D : FunD K (d_170).name (d_170).qual (d_170).params (d_170).body (d_170).scope ((d_170).dvs K) ((d_170).kws K) ((GK K).fa 170) fd) : FnG P w K mg base (n + 1) ((GK K).fa 170) fd P_170 (spC (GK K) (cal (n + 1)) 170 (P_170).length) :=
  fnG_of (b := b_answer_entry_in) (N := N_170) (ps := P_170) D sc_170 rfl (fun _ _ => rfl) fun cdv A out s H E hr hu tk po =>
  have h64 := hr.units
  have h65 := h65_ hr
  (x_cons (x_asg (x_bm rfl F.plainAttrs_str F.slot_str_partition F.type_str_partition mt_partition ty_str mPart_ok (v_ 0) (x_acons s_ x_anil)) (x_gtup rfl rfl (x_gscons (gn_ 1 nd_170) (x_gscons (gn_ 2 nd_170) (x_gscons (gn_ 3 nd_170) x_gsnil)))))
 (x_cons (set_ 4 nd_170 (call_163 hr hu Z C tk (x_acons (v_ 3) x_anil)))
 (x_cons (x_ret (x_add rfl (call_162 hr hu Z C tk (x_acons (v_ 1) x_anil)) (x_callTy call_tuple_of bTup_ok rfl Z.b_tuple (by decide +kernel) (x_acons (v_ 4) x_anil))))
 x_nil)))
theorem ok_171 (Z : Fs w K mg) (C : All P w K mg base n) (D : FunD K (d_171).name (d_171).qual (d_171).params (d_171).body (d_171).scope ((d_171).dvs K) ((d_171).kws K) ((GK K).fa 171) fd) : FnG P w K mg base (n + 1) ((GK K).fa 171) fd P_171 (spC (GK K) (cal (n + 1)) 171 (P_171).length) :=
  fnG_of (b := b_book_in) (N := N_171) (ps := P_171) D sc_171 rfl (fun _ _ => rfl) fun cdv A out s H E hr hu tk po =>
  have h64 := hr.units
  have h65 := h65_ hr
  (x_cons (set_ 1 nd_171 (x_callTy call_tuple_of bTup_ok rfl Z.b_tuple (by decide +kernel) (x_acons (x_lc (own := [("word", 2)]) rfl rfl rfl tk rfl nd_171 (x_ival rfl (v_ 0)) (blk_ (N := N_171) (sc := d_171.scope) rfl rfl (by decide +kernel)) (fun _ _ _ _ _ _ => (gn_ 2 nd_171)) (fun _ _ _ _ _ _ _ tk => x_ts0) (fun _ _ _ _ _ _ _ tk => (call_169 hr hu Z C tk (x_acons (v_ 2) x_anil)))) x_anil)))
 (x_cons (x_ret (x_if (x_tval (call_23 hr hu Z C tk (x_acons (v_ 1) x_anil))) (v_ 1) x_non))
 x_nil))
theorem ok_172 (Z : Fs w K mg) (C : All P w K mg base n) (D : FunD K (d_172).name (d_172).qual (d_172).params (d_172).body (d_172).scope ((d_172).dvs K) ((d_172).kws K) ((GK K).fa 172) fd) : FnG P w K mg base (n + 1) ((GK K).fa 172) fd P_172 (spC (GK K) (cal (n + 1)) 172 (P_172).length) :=
  fnG_of (b := b_answers_in) (N := N_172) (ps := P_172) D sc_172 rfl (fun _ _ => rfl) fun cdv A out s H E hr hu tk po =>
  have h64 := hr.units
  have h65 := h65_ hr
  (x_cons (set_ 1 nd_172 (x_callTy call_tuple_of bTup_ok rfl Z.b_tuple (by decide +kernel) (x_acons (x_lc (own := [("word", 2)]) rfl rfl rfl tk rfl nd_172 (x_ival rfl (v_ 0)) (blk_ (N := N_172) (sc := d_172.scope) rfl rfl (by decide +kernel)) (fun _ _ _ _ _ _ => (gn_ 2 nd_172)) (fun _ _ _ _ _ _ _ tk => x_ts0) (fun _ _ _ _ _ _ _ tk => (call_170 hr hu Z C tk (x_acons (v_ 2) x_anil)))) x_anil)))
 (x_cons (x_ret (x_if (x_tval (call_25 hr hu Z C tk (x_acons (v_ 1) x_anil))) (v_ 1) x_non))
 x_nil))
theorem ok_173 (Z : Fs w K mg) (C : All P w K mg base n) (D : FunD K (d_173).name (d_173).qual (d_173).params (d_173).body (d_173).scope ((d_173).dvs K) ((d_173).kws K) ((GK K).fa 173) fd) : FnG P w K mg base (n + 1) ((GK K).fa 173) fd P_173 (spC (GK K) (cal (n + 1)) 173 (P_173).length) :=
  fnG_of (b := b_members_in) (N := N_173) (ps := P_173) D sc_173 rfl (fun _ _ => rfl) fun cdv A out s H E hr hu tk po =>
  have h64 := hr.units
  have h65 := h65_ hr
  (x_cons (set_ 1 nd_173 (x_callTy call_tuple_of bTup_ok rfl Z.b_tuple (by decide +kernel) (x_acons (x_lc (own := [("word", 2)]) rfl rfl rfl tk rfl nd_173 (x_ival rfl (v_ 0)) (blk_ (N := N_173) (sc := d_173.scope) rfl rfl (by decide +kernel)) (fun _ _ _ _ _ _ => (gn_ 2 nd_173)) (fun _ _ _ _ _ _ _ tk => x_ts0) (fun _ _ _ _ _ _ _ tk => (call_160 hr hu Z C tk (x_acons (v_ 2) x_anil)))) x_anil)))
 (x_cons (x_ret (x_if (x_tval (call_12 hr hu Z C tk (x_acons (v_ 1) x_anil))) (v_ 1) x_non))
 x_nil))
theorem ok_174 (Z : Fs w K mg) (C : All P w K mg base n) (D : FunD K (d_174).name (d_174).qual (d_174).params (d_174).body (d_174).scope ((d_174).dvs K) ((d_174).kws K) ((GK K).fa 174) fd) : FnG P w K mg base (n + 1) ((GK K).fa 174) fd P_174 (spC (GK K) (cal (n + 1)) 174 (P_174).length) :=
  fnG_of (b := b_read_state) (N := N_174) (ps := P_174) D sc_174 rfl (fun _ _ => rfl) fun cdv A out s H E hr hu tk po =>
  have h64 := hr.units
  have h65 := h65_ hr
  (x_cons (x_if' (x_tnot (x_tval (x_is (T := .str) rfl (by decide) rfl Z.b_isinstance rfl Z.b_str (by decide +kernel) (v_ 0))))
 (x_cons x_never
 x_nil)
 x_nil)
 (x_cons (set_ 1 nd_174 (x_lst x_anil))
 (x_cons (set_ 2 nd_174 (x_dis (pps_c s_ (x_gdict rfl Z.g_171) (pps_c s_ (x_gdict rfl Z.g_172) (pps_c s_ (x_gdict rfl Z.g_173) pps_n)))))
 (x_cons (set_ 3 nd_174 (x_bm rfl F.plainAttrs_str F.slot_str_split F.type_str_split mt_split ty_str mSplit_ok (v_ 0) (x_acons s_ x_anil)))
 (x_cons (x_for po rfl (x_ienm rfl rfl Z.b_enumerate (x_acons (v_ 3) x_anil)) (x_gtup rfl rfl (x_gscons (gn_ 4 nd_174) (x_gscons (gn_ 5 nd_174) x_gsnil)))
 (x_cons (x_asg (x_bm rfl F.plainAttrs_str F.slot_str_split F.type_str_split mt_split ty_str mSplit_ok (v_ 5) (x_acons s_ x_anil)) (x_gstar rfl rfl (x_gscons (gn_ 7 nd_174) (x_gsstar (gn_ 8 nd_174) x_gsnil))))
 (x_cons (x_if' (x_tpw (x_tor (tgt_ (v_ 4) x_int) (x_tor1 (tne_ rfl h64 (v_ 7) (ix_ rfl h65 (x_tup (x_acons s_ (x_acons s_ (x_acons s_ x_anil)))) (v_ 4))))))
 (x_cons x_never
 x_nil)
 x_nil)
 (x_cons (set_ 6 nd_174 (x_callV (cv_171_172_173 C) hr hu tk (ix_ rfl h65 (v_ 2) (v_ 7)) (x_acons (v_ 8) x_anil) (avl_cons avl_nil)))
 (x_cons (x_if' (tis_ (v_ 6) x_non)
 (x_cons x_never
 x_nil)
 x_nil)
 (x_cons (x_expr (x_bm rfl F.plainAttrs_list F.slot_list_append F.type_list_append mt_append ty_list mAppend_ok (v_ 1) (x_acons (v_ 6) x_anil)))
 x_nil))))))
 (x_cons (x_if' (tlt_ (x_callB cr_len bLen_ok rfl Z.b_len (by decide +kernel) (x_acons (v_ 1) x_anil)) x_int)
 (x_cons x_never
 x_nil)
 x_nil)
 (x_cons (x_ret (x_callTy call_tuple_of bTup_ok rfl Z.b_tuple (by decide +kernel) (x_acons (v_ 1) x_anil)))
 x_nil)))))))
theorem ok_301 (Z : Fs w K mg) (C : All P w K mg base n) (D : FunD K (d_301).name (d_301).qual (d_301).params (d_301).body (d_301).scope ((d_301).dvs K) ((d_301).kws K) ((GK K).fa 301) fd) : FnG P w K mg base (n + 1) ((GK K).fa 301) fd P_301 (spC (GK K) (cal (n + 1)) 301 (P_301).length) :=
  fnG_of (b := b__law_digits) (N := N_301) (ps := P_301) D sc_301 rfl (fun _ _ => rfl) fun cdv A out s H E hr hu tk po =>
  have h64 := hr.units
  have h65 := h65_ hr
  (x_cons (set_ 3 nd_301 (x_callB call_abs bAbs_ok rfl Z.b_abs (by decide +kernel) (x_acons (v_ 0) x_anil)))
 (x_cons (set_ 4 nd_301 (ge_ (v_ 3) (x_pow x_int x_int)))
 (x_cons (set_ 5 nd_301 (x_add rfl (x_mod (v_ 3) x_int) (x_mul x_int (v_ 1))))
 (x_cons (set_ 6 nd_301 (x_lst x_anil))
 (x_cons (x_for po rfl (x_ienm rfl rfl Z.b_enumerate (x_acons (v_ 2) x_anil)) (x_gtup rfl rfl (x_gscons (gn_ 7 nd_301) (x_gscons (gn_ 8 nd_301) x_gsnil)))
 (x_cons (x_if' (x_tpw (x_tand (x_tval (v_ 4)) (x_tand1 (tgt_ (v_ 3) x_int))))
 (x_cons (x_expr (x_bm rfl F.plainAttrs_list F.slot_list_append F.type_list_append mt_append ty_list mAppend_ok (v_ 6) (x_acons (x_mod (v_ 3) (v_ 8)) x_anil)))
 (x_cons (set_ 3 nd_301 (x_fdiv (v_ 3) (v_ 8)))
 x_nil))
 (x_cons (set_ 5 nd_301 (x_mod (x_pow (x_add rfl (v_ 5) (x_mul x_int (x_add rfl (v_ 7) x_int))) x_int) x_int))
 (x_cons (x_expr (x_bm rfl F.plainAttrs_list F.slot_list_append F.type_list_append mt_append ty_list mAppend_ok (v_ 6) (x_acons (x_mod (x_fdiv (v_ 5) x_int) (v_ 8)) x_anil)))
 x_nil)))
 x_nil))
 (x_cons (x_ret (v_ 6))
 x_nil))))))
theorem ok_302 (Z : Fs w K mg) (C : All P w K mg base n) (D : FunD K (d_302).name (d_302).qual (d_302).params (d_302).body (d_302).scope ((d_302).dvs K) ((d_302).kws K) ((GK K).fa 302) fd) : FnG P w K mg base (n + 1) ((GK K).fa 302) fd P_302 (spC (GK K) (cal (n + 1)) 302 (P_302).length) :=
  fnG_of (b := b__law_deed) (N := N_302) (ps := P_302) D sc_302 rfl (fun _ _ => rfl) fun cdv A out s H E hr hu tk po =>
  have h64 := hr.units
  have h65 := h65_ hr
  (x_cons (set_ 1 nd_302 (ix_ rfl h65 (x_lst (x_acons s_ (x_acons s_ (x_acons s_ (x_acons s_ x_anil))))) (x_mod (ix_ rfl h65 (v_ 0) x_int) x_int)))
 (x_cons (set_ 2 nd_302 (ix_ rfl h65 (x_lst (x_acons x_int (x_acons x_int (x_acons (x_neg x_int) (x_acons x_int (x_acons x_int (x_acons (x_pow x_int x_int) (x_acons (x_neg (x_pow x_int x_int)) x_anil)))))))) (x_mod (ix_ rfl h65 (v_ 0) x_int) x_int)))
 (x_cons (set_ 3 nd_302 (ix_ rfl h65 (x_lst (x_acons s_ (x_acons s_ (x_acons s_ (x_acons s_ x_anil))))) (x_mod (ix_ rfl h65 (v_ 0) x_int) x_int)))
 (x_cons (x_if' (teq_ rfl h64 (v_ 3) s_)
 (x_cons (x_ret (x_tup (x_acons (v_ 3) (x_acons (v_ 1) x_anil))))
 x_nil)
 x_nil)
 (x_cons (x_ret (x_tup (x_acons (v_ 3) (x_acons (v_ 1) (x_acons (v_ 2) x_anil)))))
 x_nil)))))
theorem ok_303 (Z : Fs w K mg) (C : All P w K mg base n) (D : FunD K (d_303).name (d_303).qual (d_303).params (d_303).body (d_303).scope ((d_303).dvs K) ((d_303).kws K) ((GK K).fa 303) fd) : FnG P w K mg base (n + 1) ((GK K).fa 303) fd P_303 (spC (GK K) (cal (n + 1)) 303 (P_303).length) :=
  fnG_of (b := b__law_ask_of) (N := N_303) (ps := P_303) D sc_303 rfl (fun _ _ => rfl) fun cdv A out s H E hr hu tk po =>
  have h64 := hr.units
  have h65 := h65_ hr
  (x_cons (set_ 1 nd_303 (call_302 hr hu Z C tk (x_acons (v_ 0) x_anil)))
 (x_cons (x_if' (teq_ rfl h64 (ix_ rfl h65 (v_ 0) x_int) x_int)
 (x_cons (set_ 1 nd_303 (x_tup (x_acons s_ (x_acons (ix_ rfl h65 (v_ 0) x_int) (x_acons (x_add rfl x_int (ix_ rfl h65 (v_ 0) x_int)) x_anil)))))
 x_nil)
 x_nil)
 (x_cons (x_ret (x_tup (x_acons (ix_ rfl h65 (v_ 0) x_int) (x_acons (ix_ rfl h65 (x_lst (x_acons x_int (x_acons x_int (x_acons (x_pow x_int x_int) x_anil)))) (x_mod (ix_ rfl h65 (v_ 0) x_int) x_int)) (x_acons (v_ 1) x_anil)))))
 x_nil)))
theorem ok_304 (Z : Fs w K mg) (C : All P w K mg base n) (D : FunD K (d_304).name (d_304).qual (d_304).params (d_304).body (d_304).scope ((d_304).dvs K) ((d_304).kws K) ((GK K).fa 304) fd) : FnG P w K mg base (n + 1) ((GK K).fa 304) fd P_304 (spC (GK K) (cal (n + 1)) 304 (P_304).length) :=
  fnG_of (b := b__law_ask_text) (N := N_304) (ps := P_304) D sc_304 rfl (fun _ _ => rfl) fun cdv A out s H E hr hu tk po =>
  have h64 := hr.units
  have h65 := h65_ hr
  (x_cons (x_if' (tis_ (v_ 0) x_non)
 (x_cons (x_ret s_)
 x_nil)
 x_nil)
 (x_cons (x_ret (x_add rfl (x_add rfl (x_add rfl (x_add rfl (x_callTy cr_str bStr_ok rfl Z.b_str (by decide +kernel) (x_acons (ix_ rfl h65 (v_ 0) x_int) x_anil)) s_) (x_callTy cr_str bStr_ok rfl Z.b_str (by decide +kernel) (x_acons (ix_ rfl h65 (v_ 0) x_int) x_anil))) s_) (x_bm rfl F.plainAttrs_str F.slot_str_join F.type_str_join mt_join ty_str mJoin_ok s_ (x_acons (x_lc (own := [("_law_one", 1)]) rfl rfl rfl tk rfl nd_304 (x_ival rfl (ix_ rfl h65 (v_ 0) x_int)) (blk_ (N := N_304) (sc := d_304.scope) rfl rfl (by decide +kernel)) (fun _ _ _ _ _ _ => (gn_ 1 nd_304)) (fun _ _ _ _ _ _ _ tk => x_ts0) (fun _ _ _ _ _ _ _ tk => (x_callTy cr_str bStr_ok rfl Z.b_str (by decide +kernel) (x_acons (v_ 1) x_anil)))) x_anil))))
 x_nil))
theorem ok_305 (Z : Fs w K mg) (C : All P w K mg base n) (D : FunD K (d_305).name (d_305).qual (d_305).params (d_305).body (d_305).scope ((d_305).dvs K) ((d_305).kws K) ((GK K).fa 305) fd) : FnG P w K mg base (n + 1) ((GK K).fa 305) fd P_305 (spC (GK K) (cal (n + 1)) 305 (P_305).length) :=
  fnG_of (b := b__law_row_text) (N := N_305) (ps := P_305) D sc_305 rfl (fun _ _ => rfl) fun cdv A out s H E hr hu tk po =>
  have h64 := hr.units
  have h65 := h65_ hr
  (x_cons (x_ret (x_bm rfl F.plainAttrs_str F.slot_str_join F.type_str_join mt_join ty_str mJoin_ok s_ (x_acons (x_lc (own := [("_law_age", 1), ("_law_place", 2), ("_law_ask", 3)]) rfl rfl rfl tk rfl nd_305 (x_ival rfl (v_ 0)) (blk_ (N := N_305) (sc := d_305.scope) rfl rfl (by decide +kernel)) (fun _ _ _ _ _ _ => (x_gtup rfl rfl (x_gscons (gn_ 1 nd_305) (x_gscons (gn_ 2 nd_305) (x_gscons (gn_ 3 nd_305) x_gsnil))))) (fun _ _ _ _ _ _ _ tk => x_ts0) (fun _ _ _ _ _ _ _ tk => (x_add rfl (x_add rfl (x_add rfl (x_add rfl (x_callTy cr_str bStr_ok rfl Z.b_str (by decide +kernel) (x_acons (v_ 1) x_anil)) s_) (x_callTy cr_str bStr_ok rfl Z.b_str (by decide +kernel) (x_acons (v_ 2) x_anil))) s_) (call_304 hr hu Z C tk (x_acons (v_ 3) x_anil))))) x_anil)))
 x_nil)
theorem ok_306 (Z : Fs w K mg) (C : All P w K mg base n) (D : FunD K (d_306).name (d_306).qual (d_306).params (d_306).body (d_306).scope ((d_306).dvs K) ((d_306).kws K) ((GK K).fa 306) fd) : FnG P w K mg base (n + 1) ((GK K).fa 306) fd P_306 (spC (GK K) (cal (n + 1)) 306 (P_306).length) :=
  fnG_of (b := b__law_word) (N := N_306) (ps := P_306) D sc_306 rfl (fun _ _ => rfl) fun cdv A out s H E hr hu tk po =>
  have h64 := hr.units
  have h65 := h65_ hr
  (x_cons (x_if' (tis_ (v_ 0) x_non)
 (x_cons (x_ret s_)
 x_nil)
 x_nil)
 (x_cons (x_if' (x_tval (x_is (T := .bl) rfl (by decide) rfl Z.b_isinstance rfl Z.b_bool (by decide +kernel) (v_ 0)))
 (x_cons (x_ret (ix_ rfl h65 (x_lst (x_acons s_ (x_acons s_ x_anil))) (x_callTy cr_int bInt_ok rfl Z.b_int (by decide +kernel) (x_acons (v_ 0) x_anil))))
 x_nil)
 x_nil)
 (x_cons (x_ret (x_callTy cr_str bStr_ok rfl Z.b_str (by decide +kernel) (x_acons (v_ 0) x_anil)))
 x_nil)))
theorem ok_307 (Z : Fs w K mg) (C : All P w K mg base n) (D : FunD K (d_307).name (d_307).qual (d_307).params (d_307).body (d_307).scope ((d_307).dvs K) ((d_307).kws K) ((GK K).fa 307) fd) : FnG P w K mg base (n + 1) ((GK K).fa 307) fd P_307 (spC (GK K) (cal (n + 1)) 307 (P_307).length) :=
  fnG_of (b := b__law_state_text) (N := N_307) (ps := P_307) D sc_307 rfl (fun _ _ => rfl) fun cdv A out s H E hr hu tk po =>
  have h64 := hr.units
  have h65 := h65_ hr
  (x_cons (set_ 1 nd_307 (x_lst (x_acons s_ (x_acons s_ (x_acons s_ x_anil)))))
 (x_cons (x_for po rfl (x_ival rfl (ix_ rfl h65 (v_ 0) x_int)) (x_gtup rfl rfl (x_gscons (gn_ 2 nd_307) (x_gscons (gn_ 3 nd_307) x_gsnil)))
 (x_cons (x_putl (v_ 1) x_int (x_add rfl (x_add rfl (x_add rfl (x_add rfl (ix_ rfl h65 (v_ 1) x_int) s_) (v_ 2)) s_) (x_callTy cr_str bStr_ok rfl Z.b_str (by decide +kernel) (x_acons (v_ 3) x_anil))))
 x_nil))
 (x_cons (x_for po rfl (x_ival rfl (ix_ rfl h65 (v_ 0) x_int)) (x_gtup rfl rfl (x_gscons (gn_ 4 nd_307) (x_gscons (gn_ 5 nd_307) (x_gscons (gn_ 6 nd_307) x_gsnil))))
 (x_cons (x_putl (v_ 1) x_int (x_add rfl (x_add rfl (x_add rfl (x_add rfl (x_add rfl (x_add rfl (ix_ rfl h65 (v_ 1) x_int) s_) (x_callTy cr_str bStr_ok rfl Z.b_str (by decide +kernel) (x_acons (v_ 4) x_anil))) s_) (x_callTy cr_str bStr_ok rfl Z.b_str (by decide +kernel) (x_acons (v_ 5) x_anil))) s_) (call_306 hr hu Z C tk (x_acons (v_ 6) x_anil))))
 x_nil))
 (x_cons (x_for po rfl (x_ival rfl (ix_ rfl h65 (v_ 0) x_int)) (gn_ 7 nd_307)
 (x_cons (x_putl (v_ 1) x_int (x_add rfl (x_add rfl (ix_ rfl h65 (v_ 1) x_int) s_) (x_callTy cr_str bStr_ok rfl Z.b_str (by decide +kernel) (x_acons (v_ 7) x_anil))))
 x_nil))
 (x_cons (x_ret (x_bm rfl F.plainAttrs_str F.slot_str_join F.type_str_join mt_join ty_str mJoin_ok s_ (x_acons (v_ 1) x_anil)))
 x_nil)))))
theorem ok_308 (Z : Fs w K mg) (C : All P w K mg base n) (D : FunD K (d_308).name (d_308).qual (d_308).params (d_308).body (d_308).scope ((d_308).dvs K) ((d_308).kws K) ((GK K).fa 308) fd) : FnG P w K mg base (n + 1) ((GK K).fa 308) fd P_308 (spC (GK K) (cal (n + 1)) 308 (P_308).length) :=
  fnG_of (b := b__law_row) (N := N_308) (ps := P_308) D sc_308 rfl (fun _ _ => rfl) fun cdv A out s H E hr hu tk po =>
  have h64 := hr.units
  have h65 := h65_ hr
  (x_cons (set_ 1 nd_308 x_int)
 (x_cons (set_ 2 nd_308 (x_neg x_int))
 (x_cons (set_ 3 nd_308 (x_lst x_anil))
 (x_cons (x_for po rfl (x_irange1 rfl Z.b_range (x_acons (ix_ rfl h65 (v_ 0) x_int) x_anil)) (gn_ 4 nd_308)
 (x_cons (set_ 5 nd_308 (x_sl rfl (v_ 0) (x_opart (x_add rfl x_int (x_mul x_int (v_ 4)))) (x_opart (x_add rfl x_int (x_mul x_int (v_ 4))))))
 (x_cons (x_if' (x_tpw (x_tor (teq_ rfl h64 (ix_ rfl h65 (v_ 5) x_int) x_int) (x_tor1 (teq_ rfl h64 (v_ 2) x_int))))
 (x_cons (set_ 1 nd_308 (x_add rfl (x_add rfl (v_ 1) x_int) (ix_ rfl h65 (v_ 5) x_int)))
 (x_cons (set_ 2 nd_308 x_int)
 x_nil))
 (x_cons (set_ 2 nd_308 (x_callB (call_min2 rfl) bMin2_ok rfl Z.b_min (by decide +kernel) (x_acons x_int (x_acons (x_add rfl (v_ 2) (ix_ rfl h65 (x_lst (x_acons x_int (x_acons x_int (x_acons x_int (x_acons x_int x_anil))))) (ix_ rfl h65 (v_ 5) x_int))) x_anil))))
 x_nil))
 (x_cons (x_expr (x_bm rfl F.plainAttrs_list F.slot_list_append F.type_list_append mt_append ty_list mAppend_ok (v_ 3) (x_acons (x_tup (x_acons (v_ 1) (x_acons (v_ 2) (x_acons (ix_ rfl h65 (x_lst (x_acons (call_303 hr hu Z C tk (x_acons (v_ 5) x_anil)) (x_acons x_non x_anil))) (x_callTy cr_int bInt_ok rfl Z.b_int (by decide +kernel) (x_acons (eq_ rfl h64 (ix_ rfl h65 (v_ 5) x_int) x_int) x_anil))) x_anil)))) x_anil)))
 x_nil))))
 (x_cons (x_ret (v_ 3))
 x_nil)))))
theorem ok_309 (Z : Fs w K mg) (C : All P w K mg base n) (D : FunD K (d_309).name (d_309).qual (d_309).params (d_309).body (d_309).scope ((d_309).dvs K) ((d_309).kws K) ((GK K).fa 309) fd) : FnG P w K mg base (n + 1) ((GK K).fa 309) fd P_309 (spC (GK K) (cal (n + 1)) 309 (P_309).length) :=
  fnG_of (b := b__law_state) (N := N_309) (ps := P_309) D sc_309 rfl (fun _ _ => rfl) fun cdv A out s H E hr hu tk po =>
  have h64 := hr.units
  have h65 := h65_ hr
  (x_cons (set_ 1 nd_309 (x_lst x_anil))
 (x_cons (x_for po rfl (x_ienm rfl rfl Z.b_enumerate (x_acons (x_sl rfl (x_lst (x_acons s_ (x_acons s_ (x_acons s_ (x_acons s_ x_anil))))) x_ono (x_opart (ix_ rfl h65 (v_ 0) x_int))) x_anil)) (x_gtup rfl rfl (x_gscons (gn_ 2 nd_309) (x_gscons (gn_ 3 nd_309) x_gsnil)))
 (x_cons (x_expr (x_bm rfl F.plainAttrs_list F.slot_list_append F.type_list_append mt_append ty_list mAppend_ok (v_ 1) (x_acons (x_tup (x_acons (v_ 3) (x_acons (ix_ rfl h65 (x_lst (x_acons x_int (x_acons (x_neg x_int) (x_acons (x_pow x_int x_int) (x_acons (x_sub x_int (x_pow x_int x_int)) x_anil))))) (ix_ rfl h65 (v_ 0) (x_add rfl x_int (v_ 2)))) x_anil))) x_anil)))
 x_nil))
 (x_cons (set_ 4 nd_309 (x_lst x_anil))
 (x_cons (x_for po rfl (x_irange1 rfl Z.b_range (x_acons (ix_ rfl h65 (v_ 0) x_int) x_anil)) (gn_ 2 nd_309)
 (x_cons (x_expr (x_bm rfl F.plainAttrs_list F.slot_list_append F.type_list_append mt_append ty_list mAppend_ok (v_ 4) (x_acons (x_tup (x_acons (x_add rfl (x_mul x_int (v_ 2)) (x_mod (ix_ rfl h65 (v_ 0) x_int) x_int)) (x_acons (x_add rfl x_int (ix_ rfl h65 (v_ 0) x_int)) (x_acons (ix_ rfl h65 (x_lst (x_acons x_non (x_acons x_bl (x_acons x_bl (x_acons x_int (x_acons x_int (x_acons (x_neg x_int) (x_acons (x_pow x_int x_int) x_anil)))))))) (ix_ rfl h65 (v_ 0) (x_add rfl x_int (v_ 2)))) x_anil)))) x_anil)))
 x_nil))
 (x_cons (set_ 5 nd_309 (x_lst x_anil))
 (x_cons (x_for po rfl (x_irange1 rfl Z.b_range (x_acons (x_add rfl x_int (ix_ rfl h65 (v_ 0) x_int)) x_anil)) (gn_ 2 nd_309)
 (x_cons (x_expr (x_bm rfl F.plainAttrs_list F.slot_list_insert F.type_list_insert mt_insert ty_list mInsert_ok (v_ 5) (x_acons (x_mod (ix_ rfl h65 (v_ 0) x_int) (x_add rfl (v_ 2) x_int)) (x_acons (x_mod (x_add rfl (x_mul x_int (v_ 2)) (ix_ rfl h65 (v_ 0) x_int)) x_int) x_anil))))
 x_nil))
 (x_cons (x_ret (x_tup (x_acons (x_callTy call_tuple_of bTup_ok rfl Z.b_tuple (by decide +kernel) (x_acons (v_ 1) x_anil)) (x_acons (x_callTy call_tuple_of bTup_ok rfl Z.b_tuple (by decide +kernel) (x_acons (v_ 4) x_anil)) (x_acons (x_callTy call_tuple_of bTup_ok rfl Z.b_tuple (by decide +kernel) (x_acons (v_ 5) x_anil)) x_anil)))))
 x_nil)))))))
theorem ok_310 (Z : Fs w K mg) (C : All P w K mg base n) (D : FunD K (d_310).name (d_310).qual (d_310).params (d_310).body (d_310).scope ((d_310).dvs K) ((d_310).kws K) ((GK K).fa 310) fd) : FnG P w K mg base (n + 1) ((GK K).fa 310) fd P_310 (spC (GK K) (cal (n + 1)) 310 (P_310).length) :=
  fnG_of (b := b__law_refused) (N := N_310) (ps := P_310) D sc_310 rfl (fun _ _ => rfl) fun cdv A out s H E hr hu tk po =>
  have h64 := hr.units
  have h65 := h65_ hr
  (x_cons (set_ 1 nd_310 (x_lst x_anil))
 (x_cons (x_for po rfl (x_irange1 rfl Z.b_range (x_acons x_int x_anil)) (gn_ 2 nd_310)
 (x_cons (set_ 3 nd_310 x_non)
 (x_cons (x_keep (i := 4) (j := 3) rfl rfl rfl nd_310 rfl rfl rfl rfl ⟨rfl, by decide, .inl Z.gc_HeadError⟩ tk Z.m_HeadError (fun W pn xe tk po => (x_cons (x_if' (teq_ rfl h64 (v_ 2) x_int)
 (x_cons (x_expr (call_156 hr hu Z C tk (x_acons (v_ 0) x_anil)))
 x_nil)
 (x_cons (x_if' (teq_ rfl h64 (v_ 2) x_int)
 (x_cons (x_expr (call_159 hr hu Z C tk (x_acons (v_ 0) x_anil)))
 x_nil)
 (x_cons (x_expr (call_157 hr hu Z C tk (x_acons (x_lst (x_acons (x_tup (x_acons x_int (x_acons x_int (x_acons (v_ 0) x_anil)))) x_anil)) x_anil)))
 x_nil))
 x_nil))
 x_nil)) (by first | exact Or.inl rfl | exact Or.inr (Or.inl rfl)) rfl (Or.inl rfl))
 (x_cons (x_expr (x_bm rfl F.plainAttrs_list F.slot_list_append F.type_list_append mt_append ty_list mAppend_ok (v_ 1) (x_acons (x_lst (x_acons (x_isE rfl rfl Z.b_isinstance rfl Z.gc_NoAsk Z.n_NoAsk Z.i_NoAsk (v_ 3)) (x_acons (x_isE rfl rfl Z.b_isinstance rfl Z.gc_NoState Z.n_NoState Z.i_NoState (v_ 3)) x_anil))) x_anil)))
 x_nil))))
 (x_cons (x_ret (eq_ rfl h64 (v_ 1) (x_lst (x_acons (x_lst (x_acons x_bl (x_acons x_bl x_anil))) (x_acons (x_lst (x_acons x_bl (x_acons x_bl x_anil))) (x_acons (x_lst (x_acons x_bl (x_acons x_bl x_anil))) x_anil))))))
 x_nil)))
theorem ok_311 (Z : Fs w K mg) (C : All P w K mg base n) (D : FunD K (d_311).name (d_311).qual (d_311).params (d_311).body (d_311).scope ((d_311).dvs K) ((d_311).kws K) ((GK K).fa 311) fd) : FnG P w K mg base (n + 1) ((GK K).fa 311) fd P_311 (spC (GK K) (cal (n + 1)) 311 (P_311).length) :=
  fnG_of (b := b__law_right) (N := N_311) (ps := P_311) D sc_311 rfl (fun _ _ => rfl) fun cdv A out s H E hr hu tk po =>
  have h64 := hr.units
  have h65 := h65_ hr
  (x_cons (set_ 3 nd_311 (call_304 hr hu Z C tk (x_acons (v_ 0) x_anil)))
 (x_cons (x_if' (x_tpw (x_tor (tne_ rfl h64 (call_156 hr hu Z C tk (x_acons (v_ 0) x_anil)) (v_ 3)) (x_tor1 (tne_ rfl h64 (x_callB (cr_repr h65 hu) bRepr_ok rfl Z.b_repr (by decide +kernel) (x_acons (call_166 hr hu Z C tk (x_acons (v_ 3) x_anil)) x_anil)) (x_callB (cr_repr h65 hu) bRepr_ok rfl Z.b_repr (by decide +kernel) (x_acons (v_ 0) x_anil))))))
 (x_cons (x_ret x_bl)
 x_nil)
 x_nil)
 (x_cons (set_ 3 nd_311 (call_305 hr hu Z C tk (x_acons (v_ 1) x_anil)))
 (x_cons (x_if' (tne_ rfl h64 (call_157 hr hu Z C tk (x_acons (v_ 1) x_anil)) (v_ 3))
 (x_cons (x_ret x_bl)
 x_nil)
 x_nil)
 (x_cons (x_for po rfl (x_irange1 rfl Z.b_range (x_acons x_int x_anil)) (gn_ 4 nd_311)
 (x_cons (set_ 5 nd_311 (call_168 hr hu Z C tk (x_acons (v_ 3) x_anil)))
 (x_cons (x_if' (tne_ rfl h64 (x_callB (cr_repr h65 hu) bRepr_ok rfl Z.b_repr (by decide +kernel) (x_acons (v_ 5) x_anil)) (x_callB (cr_repr h65 hu) bRepr_ok rfl Z.b_repr (by decide +kernel) (x_acons (v_ 1) x_anil)))
 (x_cons (x_ret x_bl)
 x_nil)
 x_nil)
 (x_cons (x_expr (x_bm rfl F.plainAttrs_list F.slot_list_append F.type_list_append mt_append ty_list mAppend_ok (v_ 5) (x_acons x_non x_anil)))
 x_nil))))
 (x_cons (set_ 3 nd_311 (call_307 hr hu Z C tk (x_acons (v_ 2) x_anil)))
 (x_cons (x_ret (x_and (eq_ rfl h64 (call_159 hr hu Z C tk (x_acons (v_ 2) x_anil)) (v_ 3)) (x_one (eq_ rfl h64 (x_callB (cr_repr h65 hu) bRepr_ok rfl Z.b_repr (by decide +kernel) (x_acons (call_174 hr hu Z C tk (x_acons (v_ 3) x_anil)) x_anil)) (x_callB (cr_repr h65 hu) bRepr_ok rfl Z.b_repr (by decide +kernel) (x_acons (v_ 2) x_anil))))))
 x_nil)))))))
theorem ok_312 (Z : Fs w K mg) (C : All P w K mg base n) (D : FunD K (d_312).name (d_312).qual (d_312).params (d_312).body (d_312).scope ((d_312).dvs K) ((d_312).kws K) ((GK K).fa 312) fd) : FnG P w K mg base (n + 1) ((GK K).fa 312) fd P_312 (spC (GK K) (cal (n + 1)) 312 (P_312).length) :=
  fnG_of (b := b__law_signs_right) (N := N_312) (ps := P_312) D sc_312 rfl (fun _ _ => rfl) fun cdv A out s H E hr hu tk po =>
  have h64 := hr.units
  have h65 := h65_ hr
  (x_cons (set_ 0 nd_312 (x_lst x_anil))
 (x_cons (set_ 1 nd_312 (x_lst x_anil))
 (x_cons (x_for po rfl (x_ienmS rfl Z.b_enumerate (x_acons s_ x_anil)) (x_gtup rfl rfl (x_gscons (gn_ 2 nd_312) (x_gscons (gn_ 3 nd_312) x_gsnil)))
 (x_cons (set_ 4 nd_312 (mulS_ (v_ 3) (x_add rfl x_int (x_mod (v_ 2) x_int))))
 (x_cons (set_ 5 nd_312 (x_tup (x_acons (x_mod (v_ 2) x_int) (x_acons (x_add rfl x_int (v_ 2)) (x_acons (x_tup (x_acons s_ (x_acons (v_ 4) (x_acons (v_ 2) x_anil)))) x_anil)))))
 (x_cons (x_if' (x_tpw (x_tor (tne_ rfl h64 (call_166 hr hu Z C tk (x_acons (call_156 hr hu Z C tk (x_acons (v_ 5) x_anil)) x_anil)) (v_ 5)) (x_tor1 (tne_ rfl h64 (call_156 hr hu Z C tk (x_acons (v_ 5) x_anil)) (call_304 hr hu Z C tk (x_acons (v_ 5) x_anil))))))
 (x_cons (x_ret x_bl)
 x_nil)
 x_nil)
 (x_cons (x_expr (x_bm rfl F.plainAttrs_list F.slot_list_append F.type_list_append mt_append ty_list mAppend_ok (v_ 0) (x_acons (x_tup (x_acons (x_add rfl (x_sub (x_pow x_int x_int) x_int) (v_ 2)) (x_acons (v_ 2) (x_acons (v_ 5) x_anil)))) x_anil)))
 (x_cons (x_expr (x_bm rfl F.plainAttrs_list F.slot_list_append F.type_list_append mt_append ty_list mAppend_ok (v_ 1) (x_acons (x_tup (x_acons (v_ 4) (x_acons (x_sub x_int (v_ 2)) x_anil))) x_anil)))
 x_nil))))))
 (x_cons (x_expr (x_bm rfl F.plainAttrs_list F.slot_list_append F.type_list_append mt_append ty_list mAppend_ok (v_ 0) (x_acons (x_tup (x_acons (x_pow x_int x_int) (x_acons x_int (x_acons x_non x_anil)))) x_anil)))
 (x_cons (set_ 6 nd_312 (x_callTy call_tuple_of bTup_ok rfl Z.b_tuple (by decide +kernel) (x_acons (x_lc (own := [("_law_asker", 7)]) rfl rfl rfl tk rfl nd_312 (x_irange1 rfl Z.b_range (x_acons x_int x_anil)) (blk_ (N := N_312) (sc := d_312.scope) rfl rfl (by decide +kernel)) (fun _ _ _ _ _ _ => (gn_ 7 nd_312)) (fun _ _ _ _ _ _ _ tk => x_ts0) (fun _ _ _ _ _ _ _ tk => (x_tup (x_acons (v_ 7) (x_acons (x_add rfl x_int (v_ 7)) (x_acons (ix_ rfl h65 (x_lst (x_acons x_non (x_acons x_bl (x_acons x_bl (x_acons x_int (x_acons x_int x_anil)))))) (x_mod (v_ 7) x_int)) x_anil)))))) x_anil)))
 (x_cons (x_ret (call_311 hr hu Z C tk (x_acons x_non (x_acons (v_ 0) (x_acons (x_tup (x_acons (x_callTy call_tuple_of bTup_ok rfl Z.b_tuple (by decide +kernel) (x_acons (v_ 1) x_anil)) (x_acons (v_ 6) (x_acons (x_tup (x_acons x_int (x_acons x_int (x_acons x_int x_anil)))) x_anil)))) x_anil)))))
 x_nil))))))
theorem ok_313 (Z : Fs w K mg) (C : All P w K mg base n) (D : FunD K (d_313).name (d_313).qual (d_313).params (d_313).body (d_313).scope ((d_313).dvs K) ((d_313).kws K) ((GK K).fa 313) fd) : FnG P w K mg base (n + 1) ((GK K).fa 313) fd P_313 (spC (GK K) (cal (n + 1)) 313 (P_313).length) :=
  fnG_of (b := b_law) (N := N_313) (ps := P_313) D sc_313 rfl (fun _ _ => rfl) fun cdv A out s H E hr hu tk po =>
  have h64 := hr.units
  have h65 := h65_ hr
  (x_cons (x_for po rfl (x_ienm rfl rfl Z.b_enumerate (x_acons (x_sl rfl (x_op op_catL dCatL_ok (v_ 0) (x_lst (x_acons x_int x_anil))) x_ono (x_opart x_int)) x_anil)) (x_gtup rfl rfl (x_gscons (gn_ 1 nd_313) (x_gscons (gn_ 2 nd_313) x_gsnil)))
 (x_cons (set_ 3 nd_313 (call_301 hr hu Z C tk (x_acons (v_ 2) (x_acons (v_ 1) (x_acons (x_add rfl (x_add rfl (x_lst (x_acons x_int (x_acons x_int (x_acons x_int (x_acons x_int (x_acons x_int (x_acons x_int x_anil))))))) (x_lst (x_acons x_int x_anil))) (x_mul (x_lst (x_acons x_int (x_acons x_int (x_acons x_int (x_acons x_int (x_acons x_int (x_acons x_int x_anil))))))) x_int)) x_anil)))))
 (x_cons (set_ 4 nd_313 (call_301 hr hu Z C tk (x_acons (v_ 2) (x_acons (x_add rfl (v_ 1) x_int) (x_acons (x_lst (x_acons x_int (x_acons x_int (x_acons x_int (x_acons x_int (x_acons x_int (x_acons x_int (x_acons x_int (x_acons x_int (x_acons x_int (x_acons x_int (x_acons x_int (x_acons x_int (x_acons x_int (x_acons x_int x_anil))))))))))))))) x_anil)))))
 (x_cons (x_if' (x_tnot (x_tval (call_311 hr hu Z C tk (x_acons (call_303 hr hu Z C tk (x_acons (v_ 3) x_anil)) (x_acons (call_308 hr hu Z C tk (x_acons (x_sl rfl (v_ 3) (x_opart x_int) x_ono) x_anil)) (x_acons (call_309 hr hu Z C tk (x_acons (v_ 4) x_anil)) x_anil))))))
 (x_cons (x_ret x_bl)
 x_nil)
 x_nil)
 x_nil))))
 (x_cons (x_for po rfl (x_ival rfl (x_lst (x_acons (x_tup x_anil) (x_acons x_int (x_acons s_ (x_acons (x_tup (x_acons x_int (x_acons x_int (x_acons (x_tup (x_acons s_ (x_acons s_ x_anil))) x_anil)))) (x_acons (x_tup (x_acons x_int (x_acons x_int (x_acons (x_tup (x_acons s_ x_anil)) x_anil)))) (x_acons (x_lst (x_acons x_int (x_acons x_int (x_acons (x_tup (x_acons s_ (x_acons s_ x_anil))) x_anil)))) (x_acons x_bl (x_acons x_dnew (x_acons (x_tup (x_acons (x_tup x_anil) (x_acons (x_tup x_anil) x_anil))) x_anil))))))))))) (gn_ 5 nd_313)
 (x_cons (x_if' (x_tnot (x_tval (call_310 hr hu Z C tk (x_acons (v_ 5) x_anil))))
 (x_cons (x_ret x_bl)
 x_nil)
 x_nil)
 x_nil))
 (x_cons (x_if' (x_tnot (x_tval (call_312 hr hu Z C tk)))
 (x_cons (x_ret x_bl)
 x_nil)
 x_nil)
 (x_cons (x_ret (x_and (eq_ rfl h64 (call_168 hr hu Z C tk (x_acons s_ x_anil)) (x_lst x_anil)) (x_and (eq_ rfl h64 (call_157 hr hu Z C tk (x_acons (x_lst x_anil) x_anil)) s_) (x_and (is_ (call_166 hr hu Z C tk (x_acons s_ x_anil)) x_non) (x_one (eq_ rfl h64 (call_156 hr hu Z C tk (x_acons x_non x_anil)) s_))))))
 x_nil))))
end
end Ev
set_option Elab.async false
set_option linter.all false
set_option maxRecDepth 100000
namespace Ev
open PySem PySem.Spec PyProof.Rows L2
section
variable {P : Program} {w : World} {K : PySem.W.Frag} {mg : Str → Option Value} {base : Heap}
def Dfs (K : PySem.W.Frag) : Prop := (∃ fd, FunD K d_9.name d_9.qual d_9.params d_9.body d_9.scope (d_9.dvs K) (d_9.kws K) ((GK K).fa 9) fd) ∧ (∃ fd, FunD K d_10.name d_10.qual d_10.params d_10.body d_10.scope (d_10.dvs K) (d_10.kws K) ((GK K).fa 10) fd) ∧ (∃ fd, FunD K d_11.name d_11.qual d_11.params d_11.body d_11.scope (d_11.dvs K) (d_11.kws K) ((GK K).fa 11) fd) ∧ (∃ fd, FunD K d_12.name d_12.qual d_12.params d_12.body d_12.scope (d_12.dvs K) (d_12.kws K) ((GK K).fa 12) fd) ∧ (∃ fd, FunD K d_18.name d_18.qual d_18.params d_18.body d_18.scope (d_18.dvs K) (d_18.kws K) ((GK K).fa 18) fd) ∧ (∃ fd, FunD K d_19.name d_19.qual d_19.params d_19.body d_19.scope (d_19.dvs K) (d_19.kws K) ((GK K).fa 19) fd) ∧ (∃ fd, FunD K d_20.name d_20.qual d_20.params d_20.body d_20.scope (d_20.dvs K) (d_20.kws K) ((GK K).fa 20) fd) ∧ (∃ fd, FunD K d_21.name d_21.qual d_21.params d_21.body d_21.scope (d_21.dvs K) (d_21.kws K) ((GK K).fa 21) fd) ∧ (∃ fd, FunD K d_22.name d_22.qual d_22.params d_22.body d_22.scope (d_22.dvs K) (d_22.kws K) ((GK K).fa 22) fd) ∧ (∃ fd, FunD K d_23.name d_23.qual d_23.params d_23.body d_23.scope (d_23.dvs K) (d_23.kws K) ((GK K).fa 23) fd) ∧ (∃ fd, FunD K d_24.name d_24.qual d_24.params d_24.body d_24.scope (d_24.dvs K) (d_24.kws K) ((GK K).fa 24) fd) ∧ (∃ fd, FunD K d_25.name d_25.qual d_25.params d_25.body d_25.scope (d_25.dvs K) (d_25.kws K) ((GK K).fa 25) fd) ∧ (∃ fd, FunD K d_26.name d_26.qual d_26.params d_26.body d_26.scope (d_26.dvs K) (d_26.kws K) ((GK K).fa 26) fd) ∧ (∃ fd, FunD K d_27.name d_27.qual d_27.params d_27.body d_27.scope (d_27.dvs K) (d_27.kws K) ((GK K).fa 27) fd) ∧ (∃ fd, FunD K d_155.name d_155.qual d_155.params d_155.body d_155.scope (d_155.dvs K) (d_155.kws K) ((GK K).fa 155) fd) ∧ (∃ fd, FunD K d_156.name d_156.qual d_156.params d_156.body d_156.scope (d_156.dvs K) (d_156.kws K) ((GK K).fa 156) fd) ∧ (∃ fd, FunD K d_157.name d_157.qual d_157.params d_157.body d_157.scope (d_157.dvs K) (d_157.kws K) ((GK K).fa 157) fd) ∧ (∃ fd, FunD K d_158.name d_158.qual d_158.params d_158.body d_158.scope (d_158.dvs K) (d_158.kws K) ((GK K).fa 158) fd) ∧ (∃ fd, FunD K d_159.name d_159.qual d_159.params d_159.body d_159.scope (d_159.dvs K) (d_159.kws K) ((GK K).fa 159) fd) ∧ (∃ fd, FunD K d_160.name d_160.qual d_160.params d_160.body d_160.scope (d_160.dvs K) (d_160.kws K) ((GK K).fa 160) fd) ∧ (∃ fd, FunD K d_161.name d_161.qual d_161.params d_161.body d_161.scope (d_161.dvs K) (d_161.kws K) ((GK K).fa 161) fd) ∧ (∃ fd, FunD K d_162.name d_162.qual d_162.params d_162.body d_162.scope (d_162.dvs K) (d_162.kws K) ((GK K).fa 162) fd) ∧ (∃ fd, FunD K d_163.name d_163.qual d_163.params d_163.body d_163.scope (d_163.dvs K) (d_163.kws K) ((GK K).fa 163) fd) ∧ (∃ fd, FunD K d_164.name d_164.qual d_164.params d_164.body d_164.scope (d_164.dvs K) (d_164.kws K) ((GK K).fa 164) fd) ∧ (∃ fd, FunD K d_165.name d_165.qual d_165.params d_165.body d_165.scope (d_165.dvs K) (d_165.kws K) ((GK K).fa 165) fd) ∧ (∃ fd, FunD K d_166.name d_166.qual d_166.params d_166.body d_166.scope (d_166.dvs K) (d_166.kws K) ((GK K).fa 166) fd) ∧ (∃ fd, FunD K d_167.name d_167.qual d_167.params d_167.body d_167.scope (d_167.dvs K) (d_167.kws K) ((GK K).fa 167) fd) ∧ (∃ fd, FunD K d_168.name d_168.qual d_168.params d_168.body d_168.scope (d_168.dvs K) (d_168.kws K) ((GK K).fa 168) fd) ∧ (∃ fd, FunD K d_169.name d_169.qual d_169.params d_169.body d_169.scope (d_169.dvs K) (d_169.kws K) ((GK K).fa 169) fd) ∧ (∃ fd, FunD K d_170.name d_170.qual d_170.params d_170.body d_170.scope (d_170.dvs K) (d_170.kws K) ((GK K).fa 170) fd) ∧ (∃ fd, FunD K d_171.name d_171.qual d_171.params d_171.body d_171.scope (d_171.dvs K) (d_171.kws K) ((GK K).fa 171) fd) ∧ (∃ fd, FunD K d_172.name d_172.qual d_172.params d_172.body d_172.scope (d_172.dvs K) (d_172.kws K) ((GK K).fa 172) fd) ∧ (∃ fd, FunD K d_173.name d_173.qual d_173.params d_173.body d_173.scope (d_173.dvs K) (d_173.kws K) ((GK K).fa 173) fd) ∧ (∃ fd, FunD K d_174.name d_174.qual d_174.params d_174.body d_174.scope (d_174.dvs K) (d_174.kws K) ((GK K).fa 174) fd) ∧ (∃ fd, FunD K d_301.name d_301.qual d_301.params d_301.body d_301.scope (d_301.dvs K) (d_301.kws K) ((GK K).fa 301) fd) ∧ (∃ fd, FunD K d_302.name d_302.qual d_302.params d_302.body d_302.scope (d_302.dvs K) (d_302.kws K) ((GK K).fa 302) fd) ∧ (∃ fd, FunD K d_303.name d_303.qual d_303.params d_303.body d_303.scope (d_303.dvs K) (d_303.kws K) ((GK K).fa 303) fd) ∧ (∃ fd, FunD K d_304.name d_304.qual d_304.params d_304.body d_304.scope (d_304.dvs K) (d_304.kws K) ((GK K).fa 304) fd) ∧ (∃ fd, FunD K d_305.name d_305.qual d_305.params d_305.body d_305.scope (d_305.dvs K) (d_305.kws K) ((GK K).fa 305) fd) ∧ (∃ fd, FunD K d_306.name d_306.qual d_306.params d_306.body d_306.scope (d_306.dvs K) (d_306.kws K) ((GK K).fa 306) fd) ∧ (∃ fd, FunD K d_307.name d_307.qual d_307.params d_307.body d_307.scope (d_307.dvs K) (d_307.kws K) ((GK K).fa 307) fd) ∧ (∃ fd, FunD K d_308.name d_308.qual d_308.params d_308.body d_308.scope (d_308.dvs K) (d_308.kws K) ((GK K).fa 308) fd) ∧ (∃ fd, FunD K d_309.name d_309.qual d_309.params d_309.body d_309.scope (d_309.dvs K) (d_309.kws K) ((GK K).fa 309) fd) ∧ (∃ fd, FunD K d_310.name d_310.qual d_310.params d_310.body d_310.scope (d_310.dvs K) (d_310.kws K) ((GK K).fa 310) fd) ∧ (∃ fd, FunD K d_311.name d_311.qual d_311.params d_311.body d_311.scope (d_311.dvs K) (d_311.kws K) ((GK K).fa 311) fd) ∧ (∃ fd, FunD K d_312.name d_312.qual d_312.params d_312.body d_312.scope (d_312.dvs K) (d_312.kws K) ((GK K).fa 312) fd) ∧ (∃ fd, FunD K d_313.name d_313.qual d_313.params d_313.body d_313.scope (d_313.dvs K) (d_313.kws K) ((GK K).fa 313) fd)
theorem fn_zero {j m : Nat} {f : Addr} {fd : FuncData} {ps : List Str} : FnG P w K mg base 0 f fd ps (spC (GK K) (cal 0) j m) :=
  ⟨fun vs H Q E ⟨ρ, S, ds, R, r, l, h⟩ => h.elim, fun A out s H as us vs Q E hr hu e0 hb r ⟨ρ, S, ds, R, rd, l, h⟩ => h.elim⟩
theorem all_ (Z : Fs w K mg) (D : Dfs K) : ∀ n, All P w K mg base n
  | 0 => by
    obtain ⟨h9, h10, h11, h12, h18, h19, h20, h21, h22, h23, h24, h25, h26, h27, h155, h156, h157, h158, h159, h160, h161, h162, h163, h164, h165, h166, h167, h168, h169, h170, h171, h172, h173, h174, h301, h302, h303, h304, h305, h306, h307, h308, h309, h310, h311, h312, h313⟩ := D
    exact ⟨h9.imp fun _ h => ⟨h, fn_zero⟩, h10.imp fun _ h => ⟨h, fn_zero⟩, h11.imp fun _ h => ⟨h, fn_zero⟩, h12.imp fun _ h => ⟨h, fn_zero⟩, h18.imp fun _ h => ⟨h, fn_zero⟩, h19.imp fun _ h => ⟨h, fn_zero⟩, h20.imp fun _ h => ⟨h, fn_zero⟩, h21.imp fun _ h => ⟨h, fn_zero⟩, h22.imp fun _ h => ⟨h, fn_zero⟩, h23.imp fun _ h => ⟨h, fn_zero⟩, h24.imp fun _ h => ⟨h, fn_zero⟩, h25.imp fun _ h => ⟨h, fn_zero⟩, h26.imp fun _ h => ⟨h, fn_zero⟩, h27.imp fun _ h => ⟨h, fn_zero⟩, h155.imp fun _ h => ⟨h, fn_zero⟩, h156.imp fun _ h => ⟨h, fn_zero⟩, h157.imp fun _ h => ⟨h, fn_zero⟩, h158.imp fun _ h => ⟨h, fn_zero⟩, h159.imp fun _ h => ⟨h, fn_zero⟩, h160.imp fun _ h => ⟨h, fn_zero⟩, h161.imp fun _ h => ⟨h, fn_zero⟩, h162.imp fun _ h => ⟨h, fn_zero⟩, h163.imp fun _ h => ⟨h, fn_zero⟩, h164.imp fun _ h => ⟨h, fn_zero⟩, h165.imp fun _ h => ⟨h, fn_zero⟩, h166.imp fun _ h => ⟨h, fn_zero⟩, h167.imp fun _ h => ⟨h, fn_zero⟩, h168.imp fun _ h => ⟨h, fn_zero⟩, h169.imp fun _ h => ⟨h, fn_zero⟩, h170.imp fun _ h => ⟨h, fn_zero⟩, h171.imp fun _ h => ⟨h, fn_zero⟩, h172.imp fun _ h => ⟨h, fn_zero⟩, h173.imp fun _ h => ⟨h, fn_zero⟩, h174.imp fun _ h => ⟨h, fn_zero⟩, h301.imp fun _ h => ⟨h, fn_zero⟩, h302.imp fun _ h => ⟨h, fn_zero⟩, h303.imp fun _ h => ⟨h, fn_zero⟩, h304.imp fun _ h => ⟨h, fn_zero⟩, h305.imp fun _ h => ⟨h, fn_zero⟩, h306.imp fun _ h => ⟨h, fn_zero⟩, h307.imp fun _ h => ⟨h, fn_zero⟩, h308.imp fun _ h => ⟨h, fn_zero⟩, h309.imp fun _ h => ⟨h, fn_zero⟩, h310.imp fun _ h => ⟨h, fn_zero⟩, h311.imp fun _ h => ⟨h, fn_zero⟩, h312.imp fun _ h => ⟨h, fn_zero⟩, h313.imp fun _ h => ⟨h, fn_zero⟩⟩
  | n + 1 => by
    have C := all_ Z D n
    obtain ⟨h9, h10, h11, h12, h18, h19, h20, h21, h22, h23, h24, h25, h26, h27, h155, h156, h157, h158, h159, h160, h161, h162, h163, h164, h165, h166, h167, h168, h169, h170, h171, h172, h173, h174, h301, h302, h303, h304, h305, h306, h307, h308, h309, h310, h311, h312, h313⟩ := D
    exact ⟨h9.imp fun _ h => ⟨h, ok_9 Z C h⟩, h10.imp fun _ h => ⟨h, ok_10 Z C h⟩, h11.imp fun _ h => ⟨h, ok_11 Z C h⟩, h12.imp fun _ h => ⟨h, ok_12 Z C h⟩, h18.imp fun _ h => ⟨h, ok_18 Z C h⟩, h19.imp fun _ h => ⟨h, ok_19 Z C h⟩, h20.imp fun _ h => ⟨h, ok_20 Z C h⟩, h21.imp fun _ h => ⟨h, ok_21 Z C h⟩, h22.imp fun _ h => ⟨h, ok_22 Z C h⟩, h23.imp fun _ h => ⟨h, ok_23 Z C h⟩, h24.imp fun _ h => ⟨h, ok_24 Z C h⟩, h25.imp fun _ h => ⟨h, ok_25 Z C h⟩, h26.imp fun _ h => ⟨h, ok_26 Z C h⟩, h27.imp fun _ h => ⟨h, ok_27 Z C h⟩, h155.imp fun _ h => ⟨h, ok_155 Z C h⟩, h156.imp fun _ h => ⟨h, ok_156 Z C h⟩, h157.imp fun _ h => ⟨h, ok_157 Z C h⟩, h158.imp fun _ h => ⟨h, ok_158 Z C h⟩, h159.imp fun _ h => ⟨h, ok_159 Z C h⟩, h160.imp fun _ h => ⟨h, ok_160 Z C h⟩, h161.imp fun _ h => ⟨h, ok_161 Z C h⟩, h162.imp fun _ h => ⟨h, ok_162 Z C h⟩, h163.imp fun _ h => ⟨h, ok_163 Z C h⟩, h164.imp fun _ h => ⟨h, ok_164 Z C h⟩, h165.imp fun _ h => ⟨h, ok_165 Z C h⟩, h166.imp fun _ h => ⟨h, ok_166 Z C h⟩, h167.imp fun _ h => ⟨h, ok_167 Z C h⟩, h168.imp fun _ h => ⟨h, ok_168 Z C h⟩, h169.imp fun _ h => ⟨h, ok_169 Z C h⟩, h170.imp fun _ h => ⟨h, ok_170 Z C h⟩, h171.imp fun _ h => ⟨h, ok_171 Z C h⟩, h172.imp fun _ h => ⟨h, ok_172 Z C h⟩, h173.imp fun _ h => ⟨h, ok_173 Z C h⟩, h174.imp fun _ h => ⟨h, ok_174 Z C h⟩, h301.imp fun _ h => ⟨h, ok_301 Z C h⟩, h302.imp fun _ h => ⟨h, ok_302 Z C h⟩, h303.imp fun _ h => ⟨h, ok_303 Z C h⟩, h304.imp fun _ h => ⟨h, ok_304 Z C h⟩, h305.imp fun _ h => ⟨h, ok_305 Z C h⟩, h306.imp fun _ h => ⟨h, ok_306 Z C h⟩, h307.imp fun _ h => ⟨h, ok_307 Z C h⟩, h308.imp fun _ h => ⟨h, ok_308 Z C h⟩, h309.imp fun _ h => ⟨h, ok_309 Z C h⟩, h310.imp fun _ h => ⟨h, ok_310 Z C h⟩, h311.imp fun _ h => ⟨h, ok_311 Z C h⟩, h312.imp fun _ h => ⟨h, ok_312 Z C h⟩, h313.imp fun _ h => ⟨h, ok_313 Z C h⟩⟩
end
end Ev
set_option Elab.async false
set_option linter.all false
set_option maxRecDepth 100000
set_option maxHeartbeats 0
namespace Ev
open PySem PySem.Spec PyProof.Rows L2
def hfa0 : List He.Fa := [.glo "TRUTHS", .free "abs", .free "all", .free "bool", .free "enumerate", .free "int", .free "isinstance", .free "len", .free "min", .free "range", .free "repr", .free "str"]
def hfa1 : List He.Fa := [.free "tuple", .free "zip", .str "FIGURES" (toS [48, 49, 50, 51, 52, 53, 54, 55, 56, 57]), .str "LETTERS" (toS [97, 98, 99, 100, 101, 102, 103, 104, 105, 106, 107, 108, 109, 110, 111, 112, 113, 114, 115, 116, 117, 118, 119, 120, 121, 122]), .int "MOST_ASKER" (9), .int "MOST_FIGURES" (30), .int "MOST_HOUSE" (30), .int "MOST_MEMBERS" (7), .int "MOST_NAME" (8), .int "MOST_PLACE" (29), .int "MOST_VALUE" (1000000000000), .str "NONE" (toS [45])]
def hfa2 : List He.Fa := [.glo "is_whole", .glo "is_from", .glo "is_house", .glo "is_members", .glo "is_name", .glo "is_deed", .glo "is_asker", .glo "is_ask", .glo "rises", .glo "is_book", .glo "is_answer", .glo "are_answers"]
def hfa3 : List He.Fa := [.glo "is_state", .glo "look_at_state", .glo "show_deed", .glo "show_ask", .glo "show_row", .glo "show_answer", .glo "show_state", .glo "figures_in", .glo "number_in", .glo "two_in", .glo "answer_in", .glo "deed_in"]
def hfa4 : List He.Fa := [.glo "ask_in", .glo "read_ask", .glo "deed_of_row", .glo "read_row", .glo "entry_in", .glo "answer_entry_in", .glo "book_in", .glo "answers_in", .glo "members_in", .glo "read_state", .glo "_law_digits", .glo "_law_deed"]
def hfa5 : List He.Fa := [.glo "_law_ask_of", .glo "_law_ask_text", .glo "_law_row_text", .glo "_law_word", .glo "_law_state_text", .glo "_law_row", .glo "_law_state", .glo "_law_refused", .glo "_law_right", .glo "_law_signs_right", .glo "law", .glo "HeadError"]
def hfa6 : List He.Fa := [.glo "NoAsk", .exc "NoAsk", .glo "NoState", .exc "NoState"]
def hfa : List He.Fa := hfa0 ++ hfa1 ++ hfa2 ++ hfa3 ++ hfa4 ++ hfa5 ++ hfa6
def hfn0 : List He.DefD := [d_9, d_10, d_11, d_12, d_18, d_19, d_20, d_21, d_22, d_23, d_24, d_25]
def hfn1 : List He.DefD := [d_26, d_27, d_155, d_156, d_157, d_158, d_159, d_160, d_161, d_162, d_163, d_164]
def hfn2 : List He.DefD := [d_165, d_166, d_167, d_168, d_169, d_170, d_171, d_172, d_173, d_174, d_301, d_302]
def hfn3 : List He.DefD := [d_303, d_304, d_305, d_306, d_307, d_308, d_309, d_310, d_311, d_312, d_313]
def hfn : List He.DefD := hfn0 ++ hfn1 ++ hfn2 ++ hfn3
def hts : List He.Tab := [(fun K => He.ga K "TRUTHS", ["yes", "no", "-"])]
def hnames0 : List Str := ["HeadError", "NoState", "NoAsk", "NoText", "MOST_HOUSE", "MOST_MEMBERS", "MOST_NUMBER", "is_whole", "is_from", "is_house", "is_members", "LETTERS"]
def hnames1 : List Str := ["MOST_NAME", "MOST_VALUE", "MOST_ASKER", "is_name", "is_deed", "is_asker", "is_ask", "rises", "is_book", "is_answer", "are_answers", "is_state"]
def hnames2 : List Str := ["look_at_state", "MOST_PLACE", "FIGURES", "MOST_FIGURES", "NONE", "TRUTHS", "show_deed", "show_ask", "show_row", "show_answer", "show_state", "figures_in"]
def hnames3 : List Str := ["number_in", "two_in", "answer_in", "deed_in", "ask_in", "read_ask", "deed_of_row", "read_row", "entry_in", "answer_entry_in", "book_in", "answers_in"]
def hnames4 : List Str := ["members_in", "read_state", "_law_digits", "_law_deed", "_law_ask_of", "_law_ask_text", "_law_row_text", "_law_word", "_law_state_text", "_law_row", "_law_state", "_law_refused"]
def hnames5 : List Str := ["_law_right", "_law_signs_right"]
def hnames : List Str := hnames0 ++ hnames1 ++ hnames2 ++ hnames3 ++ hnames4 ++ hnames5
def ex_t_TRUTHS (K : PySem.W.Frag) : Bool := tabB (GK K) ((GK K).fa 201) kv_201
def ex_n_NoAsk (K : PySem.W.Frag) : Bool := decide (PySem.W.kitOne K (.type "NoneType") (.ref ((GK K).ca 6)) = some false)
def ex_i_NoAsk (K : PySem.W.Frag) : Bool := it_NoAsk.all fun p => excB K ((GK K).ca p.1) && decide (PySem.W.kitOne K (.ref ((GK K).ca p.1)) (.ref ((GK K).ca 6)) = some p.2)
def ex_n_NoState (K : PySem.W.Frag) : Bool := decide (PySem.W.kitOne K (.type "NoneType") (.ref ((GK K).ca 2)) = some false)
def ex_i_NoState (K : PySem.W.Frag) : Bool := it_NoState.all fun p => excB K ((GK K).ca p.1) && decide (PySem.W.kitOne K (.ref ((GK K).ca p.1)) (.ref ((GK K).ca 2)) = some p.2)
def ex_m_HeadError (K : PySem.W.Frag) : Bool := mt_HeadError.all fun p => decide (PySem.W.exmOne K (.ref ((GK K).ca p.1)) (.ref ((GK K).ca 0)) = some p.2)
def hex (K : PySem.W.Frag) : Bool := (ex_t_TRUTHS K && (ex_n_NoAsk K && (ex_i_NoAsk K && (ex_n_NoState K && (ex_i_NoState K && ex_m_HeadError K)))))
abbrev hR : PySem.W.OpenRow := PySem.W.OpenLaw.row PySem.Challenge.rw_trueheads_k71_texts_written_and_read
abbrev hV : Program := PySem.W.view hR.prog [68]
abbrev hk : PySem.W.Hook := He.hookX 3 hfa hfn hts [] hex
def hob (s : PySem.W.SharedT) : He.AlX := He.obsX 3 hfa hfn hts [] hex (HandSHeadRun.getT s)
theorem hob_eq (s : PySem.W.SharedT) : hob s = hk.obs s.abs := He.obsX_eq (HandSHeadRun.getT_eq s)
theorem run0 (w : World) : HandSHeadRun.RunEq hR hV hk hob 9000 hnames (w.withFollow "special-get-raises" false) := by
  intro os
  kernel_rfl
theorem run1 (w : World) : HandSHeadRun.RunEq hR hV hk hob 9000 hnames (w.withFollow "special-get-raises" true) := by
  intro os
  kernel_rfl
theorem hrun (w : World) : HandSHeadRun.RunEq hR hV hk hob 9000 hnames w := PySem.W.byRow2 "special-get-raises" run0 run1 w
section
variable {K : PySem.W.Frag} {h : Heap} {mg : Str → Option Value} {w : World}
theorem hmore (c : He.SaysX hfa hfn hts [] hex w h K) : ex_t_TRUTHS K = true ∧ ex_n_NoAsk K = true ∧ ex_i_NoAsk K = true ∧ ex_n_NoState K = true ∧ ex_i_NoState K = true ∧ ex_m_HeadError K = true := by
  have e := c.more
  unfold hex at e
  simp only [Bool.and_eq_true] at e
  exact e
theorem hFs (X : K.In h) (G : h.Ns mainGlobals mg) (c : He.SaysX hfa hfn hts [] hex w h K) : Fs w K mg := by
  obtain ⟨m_t_TRUTHS, m_n_NoAsk, m_i_NoAsk, m_n_NoState, m_i_NoState, m_m_HeadError⟩ := hmore c
  exact {
    k_TRUTHS := He.glo_ok X G (c.t.d.fact 0 (f := .glo "TRUTHS") rfl)
    d_TRUTHS := c.t.tab 0 rfl
    b_abs := He.free_ok X G (c.t.d.fact 1 (f := .free "abs") rfl)
    b_all := He.free_ok X G (c.t.d.fact 2 (f := .free "all") rfl)
    b_bool := He.free_ok X G (c.t.d.fact 3 (f := .free "bool") rfl)
    b_enumerate := He.free_ok X G (c.t.d.fact 4 (f := .free "enumerate") rfl)
    b_int := He.free_ok X G (c.t.d.fact 5 (f := .free "int") rfl)
    b_isinstance := He.free_ok X G (c.t.d.fact 6 (f := .free "isinstance") rfl)
    b_len := He.free_ok X G (c.t.d.fact 7 (f := .free "len") rfl)
    b_min := He.free_ok X G (c.t.d.fact 8 (f := .free "min") rfl)
    b_range := He.free_ok X G (c.t.d.fact 9 (f := .free "range") rfl)
    b_repr := He.free_ok X G (c.t.d.fact 10 (f := .free "repr") rfl)
    b_str := He.free_ok X G (c.t.d.fact 11 (f := .free "str") rfl)
    b_tuple := He.free_ok X G (c.t.d.fact 12 (f := .free "tuple") rfl)
    b_zip := He.free_ok X G (c.t.d.fact 13 (f := .free "zip") rfl)
    c_FIGURES := (He.str_ok X G (c.t.d.fact 14 (f := .str "FIGURES" (toS [48, 49, 50, 51, 52, 53, 54, 55, 56, 57])) rfl)).elim fun t e => ⟨_, e, ⟨t, rfl⟩⟩
    c_LETTERS := (He.str_ok X G (c.t.d.fact 15 (f := .str "LETTERS" (toS [97, 98, 99, 100, 101, 102, 103, 104, 105, 106, 107, 108, 109, 110, 111, 112, 113, 114, 115, 116, 117, 118, 119, 120, 121, 122])) rfl)).elim fun t e => ⟨_, e, ⟨t, rfl⟩⟩
    c_MOST_ASKER := (He.int_ok X G (c.t.d.fact 16 (f := .int "MOST_ASKER" (9)) rfl)).elim fun t e => ⟨_, e, ⟨t, rfl⟩⟩
    c_MOST_FIGURES := (He.int_ok X G (c.t.d.fact 17 (f := .int "MOST_FIGURES" (30)) rfl)).elim fun t e => ⟨_, e, ⟨t, rfl⟩⟩
    c_MOST_HOUSE := (He.int_ok X G (c.t.d.fact 18 (f := .int "MOST_HOUSE" (30)) rfl)).elim fun t e => ⟨_, e, ⟨t, rfl⟩⟩
    c_MOST_MEMBERS := (He.int_ok X G (c.t.d.fact 19 (f := .int "MOST_MEMBERS" (7)) rfl)).elim fun t e => ⟨_, e, ⟨t, rfl⟩⟩
    c_MOST_NAME := (He.int_ok X G (c.t.d.fact 20 (f := .int "MOST_NAME" (8)) rfl)).elim fun t e => ⟨_, e, ⟨t, rfl⟩⟩
    c_MOST_PLACE := (He.int_ok X G (c.t.d.fact 21 (f := .int "MOST_PLACE" (29)) rfl)).elim fun t e => ⟨_, e, ⟨t, rfl⟩⟩
    c_MOST_VALUE := (He.int_ok X G (c.t.d.fact 22 (f := .int "MOST_VALUE" (1000000000000)) rfl)).elim fun t e => ⟨_, e, ⟨t, rfl⟩⟩
    c_NONE := (He.str_ok X G (c.t.d.fact 23 (f := .str "NONE" (toS [45])) rfl)).elim fun t e => ⟨_, e, ⟨t, rfl⟩⟩
    g_9 := He.glo_ok X G (c.t.d.fact 24 (f := .glo "is_whole") rfl)
    g_10 := He.glo_ok X G (c.t.d.fact 25 (f := .glo "is_from") rfl)
    g_11 := He.glo_ok X G (c.t.d.fact 26 (f := .glo "is_house") rfl)
    g_12 := He.glo_ok X G (c.t.d.fact 27 (f := .glo "is_members") rfl)
    g_18 := He.glo_ok X G (c.t.d.fact 28 (f := .glo "is_name") rfl)
    g_19 := He.glo_ok X G (c.t.d.fact 29 (f := .glo "is_deed") rfl)
    g_20 := He.glo_ok X G (c.t.d.fact 30 (f := .glo "is_asker") rfl)
    g_21 := He.glo_ok X G (c.t.d.fact 31 (f := .glo "is_ask") rfl)
    g_22 := He.glo_ok X G (c.t.d.fact 32 (f := .glo "rises") rfl)
    g_23 := He.glo_ok X G (c.t.d.fact 33 (f := .glo "is_book") rfl)
    g_24 := He.glo_ok X G (c.t.d.fact 34 (f := .glo "is_answer") rfl)
    g_25 := He.glo_ok X G (c.t.d.fact 35 (f := .glo "are_answers") rfl)
    g_26 := He.glo_ok X G (c.t.d.fact 36 (f := .glo "is_state") rfl)
    g_27 := He.glo_ok X G (c.t.d.fact 37 (f := .glo "look_at_state") rfl)
    g_155 := He.glo_ok X G (c.t.d.fact 38 (f := .glo "show_deed") rfl)
    g_156 := He.glo_ok X G (c.t.d.fact 39 (f := .glo "show_ask") rfl)
    g_157 := He.glo_ok X G (c.t.d.fact 40 (f := .glo "show_row") rfl)
    g_158 := He.glo_ok X G (c.t.d.fact 41 (f := .glo "show_answer") rfl)
    g_159 := He.glo_ok X G (c.t.d.fact 42 (f := .glo "show_state") rfl)
    g_160 := He.glo_ok X G (c.t.d.fact 43 (f := .glo "figures_in") rfl)
    g_161 := He.glo_ok X G (c.t.d.fact 44 (f := .glo "number_in") rfl)
    g_162 := He.glo_ok X G (c.t.d.fact 45 (f := .glo "two_in") rfl)
    g_163 := He.glo_ok X G (c.t.d.fact 46 (f := .glo "answer_in") rfl)
    g_164 := He.glo_ok X G (c.t.d.fact 47 (f := .glo "deed_in") rfl)
    g_165 := He.glo_ok X G (c.t.d.fact 48 (f := .glo "ask_in") rfl)
    g_166 := He.glo_ok X G (c.t.d.fact 49 (f := .glo "read_ask") rfl)
    g_167 := He.glo_ok X G (c.t.d.fact 50 (f := .glo "deed_of_row") rfl)
    g_168 := He.glo_ok X G (c.t.d.fact 51 (f := .glo "read_row") rfl)
    g_169 := He.glo_ok X G (c.t.d.fact 52 (f := .glo "entry_in") rfl)
    g_170 := He.glo_ok X G (c.t.d.fact 53 (f := .glo "answer_entry_in") rfl)
    g_171 := He.glo_ok X G (c.t.d.fact 54 (f := .glo "book_in") rfl)
    g_172 := He.glo_ok X G (c.t.d.fact 55 (f := .glo "answers_in") rfl)
    g_173 := He.glo_ok X G (c.t.d.fact 56 (f := .glo "members_in") rfl)
    g_174 := He.glo_ok X G (c.t.d.fact 57 (f := .glo "read_state") rfl)
    g_301 := He.glo_ok X G (c.t.d.fact 58 (f := .glo "_law_digits") rfl)
    g_302 := He.glo_ok X G (c.t.d.fact 59 (f := .glo "_law_deed") rfl)
    g_303 := He.glo_ok X G (c.t.d.fact 60 (f := .glo "_law_ask_of") rfl)
    g_304 := He.glo_ok X G (c.t.d.fact 61 (f := .glo "_law_ask_text") rfl)
    g_305 := He.glo_ok X G (c.t.d.fact 62 (f := .glo "_law_row_text") rfl)
    g_306 := He.glo_ok X G (c.t.d.fact 63 (f := .glo "_law_word") rfl)
    g_307 := He.glo_ok X G (c.t.d.fact 64 (f := .glo "_law_state_text") rfl)
    g_308 := He.glo_ok X G (c.t.d.fact 65 (f := .glo "_law_row") rfl)
    g_309 := He.glo_ok X G (c.t.d.fact 66 (f := .glo "_law_state") rfl)
    g_310 := He.glo_ok X G (c.t.d.fact 67 (f := .glo "_law_refused") rfl)
    g_311 := He.glo_ok X G (c.t.d.fact 68 (f := .glo "_law_right") rfl)
    g_312 := He.glo_ok X G (c.t.d.fact 69 (f := .glo "_law_signs_right") rfl)
    g_313 := He.glo_ok X G (c.t.d.fact 70 (f := .glo "law") rfl)
    gc_HeadError := He.glo_ok X G (c.t.d.fact 71 (f := .glo "HeadError") rfl)
    gc_NoAsk := He.glo_ok X G (c.t.d.fact 72 (f := .glo "NoAsk") rfl)
    x_NoAsk := He.exc_ok (c.t.d.fact 73 (f := .exc "NoAsk") rfl)
    gc_NoState := He.glo_ok X G (c.t.d.fact 74 (f := .glo "NoState") rfl)
    x_NoState := He.exc_ok (c.t.d.fact 75 (f := .exc "NoState") rfl)
    t_TRUTHS := tab_ok m_t_TRUTHS
    n_NoAsk := of_decide_eq_true m_n_NoAsk
    i_NoAsk := fun p hp => (Bool.and_eq_true_iff.mp (List.all_eq_true.mp m_i_NoAsk p hp)).imp excB_ok of_decide_eq_true
    n_NoState := of_decide_eq_true m_n_NoState
    i_NoState := fun p hp => (Bool.and_eq_true_iff.mp (List.all_eq_true.mp m_i_NoState p hp)).imp excB_ok of_decide_eq_true
    m_HeadError := fun p hp => of_decide_eq_true (List.all_eq_true.mp m_m_HeadError p hp) }
theorem hDfs (c : He.SaysX hfa hfn hts [] hex w h K) : Dfs K := ⟨c.t.d.def_ 0 (d := d_9) rfl, c.t.d.def_ 1 (d := d_10) rfl, c.t.d.def_ 2 (d := d_11) rfl, c.t.d.def_ 3 (d := d_12) rfl, c.t.d.def_ 4 (d := d_18) rfl, c.t.d.def_ 5 (d := d_19) rfl, c.t.d.def_ 6 (d := d_20) rfl, c.t.d.def_ 7 (d := d_21) rfl, c.t.d.def_ 8 (d := d_22) rfl, c.t.d.def_ 9 (d := d_23) rfl, c.t.d.def_ 10 (d := d_24) rfl, c.t.d.def_ 11 (d := d_25) rfl, c.t.d.def_ 12 (d := d_26) rfl, c.t.d.def_ 13 (d := d_27) rfl, c.t.d.def_ 14 (d := d_155) rfl, c.t.d.def_ 15 (d := d_156) rfl, c.t.d.def_ 16 (d := d_157) rfl, c.t.d.def_ 17 (d := d_158) rfl, c.t.d.def_ 18 (d := d_159) rfl, c.t.d.def_ 19 (d := d_160) rfl, c.t.d.def_ 20 (d := d_161) rfl, c.t.d.def_ 21 (d := d_162) rfl, c.t.d.def_ 22 (d := d_163) rfl, c.t.d.def_ 23 (d := d_164) rfl, c.t.d.def_ 24 (d := d_165) rfl, c.t.d.def_ 25 (d := d_166) rfl, c.t.d.def_ 26 (d := d_167) rfl, c.t.d.def_ 27 (d := d_168) rfl, c.t.d.def_ 28 (d := d_169) rfl, c.t.d.def_ 29 (d := d_170) rfl, c.t.d.def_ 30 (d := d_171) rfl, c.t.d.def_ 31 (d := d_172) rfl, c.t.d.def_ 32 (d := d_173) rfl, c.t.d.def_ 33 (d := d_174) rfl, c.t.d.def_ 34 (d := d_301) rfl, c.t.d.def_ 35 (d := d_302) rfl, c.t.d.def_ 36 (d := d_303) rfl, c.t.d.def_ 37 (d := d_304) rfl, c.t.d.def_ 38 (d := d_305) rfl, c.t.d.def_ 39 (d := d_306) rfl, c.t.d.def_ 40 (d := d_307) rfl, c.t.d.def_ 41 (d := d_308) rfl, c.t.d.def_ 42 (d := d_309) rfl, c.t.d.def_ 43 (d := d_310) rfl, c.t.d.def_ 44 (d := d_311) rfl, c.t.d.def_ 45 (d := d_312) rfl, c.t.d.def_ 46 (d := d_313) rfl⟩
end
/-- the law's row, from what the evaluator says of the law -/
theorem row_holds (n : Nat) (hn : n ≤ 200) (law : ∀ ns : List Int, ns.length ≤ 63 → (∀ z ∈ ns, Builtin.Int.intBits z ≤ 1048576) → ∃ S', cal (n + 1) 313 [.obj .H] (S0 ns) = .ok (.bl true) S') : PySem.Challenge.rw_trueheads_k71_texts_written_and_read.Holds := by
  open PySem PySem.W PySem.Calls PyProof.Rows in
  w_on; o_law
  refine HandSHeadRun.head_any (r := hR) (q := hV) (H := hk) (ob := hob) (M := 9000) (loose := hnames) (d := HandSHeadRun.topDef hR.prog 68) (kwd := []) hob_eq
    (by kernel_rfl) (fun s => by kernel_rfl) hrun (by kernel_rfl) (by kernel_rfl) (by kernel_rfl) (by rfl) (by first | assumption | decide +kernel) (by decide +kernel) ⟨rfl, rfl, rfl, rfl, rfl, by decide +kernel⟩ ?hw ?hc
  case hw => w_witness2
  case hc =>
    refine walk_ofG (l := PySem.Challenge.rw_trueheads_k71_texts_written_and_read) (n := 63) (k := n + 1) (x := "_law_script") (GK := GK) (c := cal (n + 1)) (j := 313) rfl (by decide) (by kernel_rfl) ⟨rfl, by show 301 + 3 * (n + 1) + 5 < 1000; omega, by show 4 + 16 * (n + 1) + 200 < 9900; omega⟩ (fun _ => rfl) (fun w mg fa h Y G hmg0 => ?_) law
    obtain ⟨K, KX, c⟩ := Y
    have hmg : mg ("law" : PySem.Str) = some (.ref fa) := by
      have e : (HandSHeadRun.topDef hR.prog 68).name = ("law" : PySem.Str) := by kernel_rfl
      rw [← e]
      exact hmg0
    have Z := hFs KX G c
    have e2 := hmg.symm.trans Z.g_313
    cases e2
    obtain ⟨fd, D⟩ := c.t.d.def_ 46 (d := d_313) rfl
    refine ⟨K, fd, KX, fun s u => ?_, fun base hb hbm => ?_⟩
    · have b := FunD.bindsA (ps := P_313) D fun _ _ _ _ _ _ us hl => match us, hl with | [_], _ => rfl
      exact b s [u] rfl
    · exact ok_313 Z (all_ Z (hDfs c) n) D
end Ev
set_option Elab.async false
set_option linter.all false
set_option maxRecDepth 100000
namespace Ev
theorem Pv.to {c : Cal} {env : Slots} {S : Sto} {e : Ev} {d d' : D} (h : Pv c env S e d) (q : d = d') : Pv c env S e d' := q ▸ h
theorem Pt.to {c : Cal} {env : Slots} {S : Sto} {e : Tv} {d d' : Bool} (h : Pt c env S e d) (q : d = d') : Pt c env S e d' := q ▸ h
theorem Fv.to {c : Cal} {j : Nat} {ds : List D} {S : Sto} {d d' : D} (h : Fv c j ds S d) (q : d = d') : Fv c j ds S d' := q ▸ h
theorem Pl.to {c : Cal} {env : Slots} {S : Sto} {e : Ev} {d d' : List D} (h : Pl c env S e d) (q : d = d') : Pl c env S e d' := q ▸ h
theorem Fl.to {c : Cal} {j : Nat} {ds : List D} {S : Sto} {d d' : List D} (h : Fl c j ds S d) (q : d = d') : Fl c j ds S d' := q ▸ h
theorem Ps.to {c : Cal} {env : Slots} {S : Sto} {e : Sv} {d d' : Out} (h : Ps c env S e d) (q : d = d') : Ps c env S e d' := q ▸ h
theorem pv_and_f {c : Cal} {env : Slots} {S : Sto} {a b : Ev} (ha : Pv c env S a (.bl false)) : Pv c env S (eAnd a b) (.bl false) := (pv_and (y := false) ha fun h => by cases h).to rfl
theorem pv_or_t {c : Cal} {env : Slots} {S : Sto} {a b : Ev} (ha : Pv c env S a (.bl true)) : Pv c env S (eOr a b) (.bl true) := (pv_or (y := true) ha fun h => by cases h).to rfl
theorem pt_or_t {c : Cal} {env : Slots} {S : Sto} {a b : Tv} (ha : Pt c env S a true) : Pt c env S (tOr' a b) true := (pt_or (y := true) ha fun h => by cases h).to rfl
theorem pt_and_f {c : Cal} {env : Slots} {S : Sto} {a b : Tv} (ha : Pt c env S a false) : Pt c env S (tAnd' a b) false := (pt_and (y := false) ha fun h => by cases h).to rfl
section
variable {c : Cal} {env : Slots} {S : Sto}
theorem ps_fin {e : Ev} {d : D} (he : Pv c env S e d) : Ps c env S (sSeq (sRet e) sNil) (.rt d) := ps_rt (ps_ret he)
theorem ps_ifr {t : Tv} {e : Ev} {q : Sv} {k : Bool} {d : D} (ht : Pt c env S t k) (ha : k = true → Pv c env S e d) (hb : k = false → Ps c env S q (.rt d)) : Ps c env S (sSeq (sIf t (sSeq (sRet e) sNil) sNil) q) (.rt d) :=
  ps_iff ht (fun h => ps_rt (ps_fin (ha h))) hb
theorem ps_ifn {t : Tv} {a q : Sv} {k : Bool} {r : Out} (ht : Pt c env S t k) (ha : k = true → Ps c env S (sSeq a q) r) (hb : k = false → Ps c env S q r) : Ps c env S (sSeq (sIf t a sNil) q) r := ps_iff ht ha hb
theorem psl_ifn {t : Tv} {a q : Sv} {k : Bool} {xs : List D} (ht : Pt c env S t k) (ha : k = true → Psl c env S (sSeq a q) xs) (hb : k = false → Psl c env S q xs) : Psl c env S (sSeq (sIf t a sNil) q) xs := psl_iff ht ha hb
theorem psl_fin {e : Ev} {xs : List D} (he : Pl c env S e xs) : Psl c env S (sSeq (sRet e) sNil) xs := psl_rt (psl_ret he)
theorem psl_ifr {t : Tv} {e : Ev} {q : Sv} {k : Bool} {xs : List D} (ht : Pt c env S t k) (ha : k = true → Pl c env S e xs) (hb : k = false → Psl c env S q xs) : Psl c env S (sSeq (sIf t (sSeq (sRet e) sNil) sNil) q) xs :=
  psl_iff ht (fun h => psl_rt (psl_fin (ha h))) hb
end
/-! ### plain data, not too long -/
mutual
def Sma : D → Prop
  | .non => True
  | .bl _ => True
  | .int _ => True
  | .str l => l.length ≤ big
  | .tup _ xs => Smas xs ∧ xs.length ≤ 15000
  | _ => False
def Smas : List D → Prop
  | [] => True
  | x :: xs => Sma x ∧ Smas xs
end
def sty : D → Option Tyn
  | .non => some .non
  | .bl _ => some .bl
  | .int _ => some .int
  | .str _ => some .str
  | .tup _ _ => some .tup
  | _ => none
def TyS (S : Sto) (d : D) (t : Tyn) : Prop := ∀ S1, Le S S1 → tyn d S1 = some t
theorem tys_of {S : Sto} {d : D} {t : Tyn} (h : sty d = some t) : TyS S d t := fun S1 _ => by cases d <;> first | (cases h; rfl) | cases h
theorem Sma.sty {d : D} (h : Sma d) : ∃ t, sty d = some t := by cases d <;> first | exact ⟨_, rfl⟩ | exact h.elim
theorem Smas.mem : ∀ {xs : List D} {x : D}, Smas xs → x ∈ xs → Sma x
  | y :: ys, x, h, m => by
    simp only [Smas] at h
    rcases List.mem_cons.mp m with e | e
    · rw [e]; exact h.1
    · exact Smas.mem h.2 e
theorem TyS.le {S S1 : Sto} {d : D} {t : Tyn} (h : TyS S d t) (l : Le S S1) : TyS S1 d t := fun S2 l2 => h S2 (l.trans l2)
/-! ### what the looks say -/
theorem ile {i j : Int} : (!ilt j i) = decide (i ≤ j) := by
  rw [ilt_eq]
  by_cases h : i ≤ j
  · rw [decide_eq_true h, decide_eq_false (by omega)]; rfl
  · rw [decide_eq_false h, decide_eq_true (by omega)]; rfl
theorem le_i {i j : Int} {S : Sto} : dLe (.int i) (.int j) S = .ok (.bl (decide (i ≤ j))) S := by rw [← ile]; rfl
theorem lt_i {i j : Int} {S : Sto} : dLt (.int i) (.int j) S = .ok (.bl (decide (i < j))) S := by rw [← ilt_eq]; rfl
theorem gt_i {i j : Int} {S : Sto} : dGt (.int i) (.int j) S = .ok (.bl (decide (j < i))) S := by rw [← ilt_eq]; rfl
theorem ge_i {i j : Int} {S : Sto} : dGe (.int i) (.int j) S = .ok (.bl (decide (j ≤ i))) S := by rw [← ile]; rfl
theorem ieq_dec {i j : Int} : ieq i j = decide (i = j) := by rw [ieq_eq, Bool.eq_iff_iff, decide_eq_true_eq]; exact beq_iff_eq
theorem leq_dec {i j : List Nat} : leq i j = decide (i = j) := by rw [Bool.eq_iff_iff, decide_eq_true_eq]; exact leq_iff
theorem eq_i {i j : Int} {S : Sto} : dEq (.int i) (.int j) S = .ok (.bl (decide (i = j))) S := by rw [← ieq_dec]; rfl
theorem ne_i {i j : Int} {S : Sto} : dNe (.int i) (.int j) S = .ok (.bl (!decide (i = j))) S := by rw [← ieq_dec]; rfl
theorem eq_s {i j : List Nat} {S : Sto} : dEq (.str i) (.str j) S = .ok (.bl (decide (i = j))) S := by rw [← leq_dec]; rfl
theorem ne_s {i j : List Nat} {S : Sto} : dNe (.str i) (.str j) S = .ok (.bl (!decide (i = j))) S := by rw [← leq_dec]; rfl
theorem in_lets {a : Nat} {S : Sto} : dIn (.str [a]) (.str [97, 98, 99, 100, 101, 102, 103, 104, 105, 106, 107, 108, 109, 110, 111, 112, 113, 114, 115, 116, 117, 118, 119, 120, 121, 122]) S = .ok (.bl (decide (97 ≤ a) && decide (a ≤ 122))) S := by
  show Rs.ok (D.bl _) S = _
  congr 2
  rw [Bool.eq_iff_iff]
  simp only [List.any_cons, List.any_nil, Bool.or_eq_true, Nat.beq_eq, Bool.and_eq_true, decide_eq_true_eq, Bool.or_false]
  omega
theorem in_figs {a : Nat} {S : Sto} : dIn (.str [a]) (.str [48, 49, 50, 51, 52, 53, 54, 55, 56, 57]) S = .ok (.bl (decide (48 ≤ a) && decide (a ≤ 57))) S := by
  show Rs.ok (D.bl _) S = _
  congr 2
  rw [Bool.eq_iff_iff]
  simp only [List.any_cons, List.any_nil, Bool.or_eq_true, Nat.beq_eq, Bool.and_eq_true, decide_eq_true_eq, Bool.or_false]
  omega
theorem len_s {l : List Nat} {S : Sto} (h : l.length ≤ big) : bLen [.str l] S = .ok (.int l.length) S := by unfold bLen; dsimp only; rw [Nat.ble_eq_true_of_le h]; rfl
theorem len_t {w : Bool} {xs : List D} {S : Sto} : bLen [.tup w xs] S = .ok (.int xs.length) S := rfl
def frmB (lo hi : Int) : D → Bool
  | .int i => decide (lo ≤ i) && decide (i ≤ hi)
  | _ => false
def nameB : D → Bool
  | .str l => decide (1 ≤ l.length) && decide (l.length ≤ 8) && l.all fun a => decide (97 ≤ a) && decide (a ≤ 122)
  | _ => false
def sPut : List Nat := [112, 117, 116]
def sAdd : List Nat := [97, 100, 100]
def sDrop : List Nat := [100, 114, 111, 112]
def sSwap : List Nat := [115, 119, 97, 112]
def deedB : D → Bool
  | .tup _ [.str w, a] => decide (w = sDrop) && nameB a
  | .tup _ [.str w, a, b] => ((decide (w = sPut) || decide (w = sAdd)) && (nameB a && frmB (-1000000000000) 1000000000000 b)) || (decide (w = sSwap) && (frmB 0 30 a && (frmB 0 30 b && !feq a b)))
  | _ => false
def askB : D → Bool
  | .tup _ [a, s, d] => frmB 0 9 a && (frmB 1 1000000000 s && deedB d)
  | _ => false
theorem fv_wf {c : Cal} {j : Nat} {ds : List D} {S : Sto} {d : D} (h : Wf S → Fv c j ds S d) : Fv c j ds S d := fun S1 l => h l.w S1 l
def intB : D → Bool
  | .int _ => true
  | _ => false
def Lk (S : Sto) (d : D) : Prop := ∃ t, TyS S d t
theorem Sma.lk {S : Sto} {d : D} (h : Sma d) : Lk S d := let ⟨t, e⟩ := h.sty; ⟨t, tys_of e⟩
theorem ty_obj {S : Sto} {p : Po} {t : Tyn} (w : Wf S) (h : TyS S (.obj p) t) : t = .lst ∨ t = .dic := by
  have e := h S (.refl w)
  unfold tyn at e
  dsimp only at e
  split at e <;> cases e <;> simp
section
variable {S : Sto} {n : Nat} {d : D} {t : Tyn}
theorem v_is_whole (h : Lk S d) : Fv (cal (n + 1)) 9 [d] S (.bl (intB d)) := fv_wf fun w => by
  obtain ⟨t, h⟩ := h
  refine fv_body (c := cal n) (fun _ _ => rfl) (ps_rt (ps_ret (Pv.to (pv_and (pv_is (pv_var rfl) h) fun _ => pv_not (pv_is (pv_var rfl) h)) ?_)))
  cases d with
  | obj p => rcases ty_obj w h with rfl | rfl <;> rfl
  | _ => (cases h S (.refl w)) <;> rfl
theorem v_is_from {lo hi : Int} (h : Lk S d) : Fv (cal (n + 2)) 10 [d, .int lo, .int hi] S (.bl (frmB lo hi d)) := by
  refine fv_body (c := cal (n + 1)) (fun _ _ => rfl) (ps_rt (ps_ret ?_))
  cases d with
  | int i =>
    refine Pv.to (pv_and (pv_call (pa_c (pv_var rfl) pa_n) (v_is_whole h)) fun _ => pv_chain (pv_var rfl) (pv_var rfl) (fun _ => le_i) (fun _ => pv_var rfl) fun _ _ => le_i) ?_
    rfl
  | _ => exact pv_and_f (pv_call (pa_c (pv_var rfl) pa_n) (v_is_whole h))
theorem v_is_house (h : Lk S d) : Fv (cal (n + 3)) 11 [d] S (.bl (frmB 0 30 d)) :=
  fv_body (c := cal (n + 2)) (fun _ _ => rfl) (ps_rt (ps_ret (pv_callK (pa_c (pv_var rfl) pa_n) (pa_c pv_c pa_n) (v_is_from h))))
theorem v_is_asker (h : Lk S d) : Fv (cal (n + 3)) 20 [d] S (.bl (frmB 0 9 d)) :=
  fv_body (c := cal (n + 2)) (fun _ _ => rfl) (ps_rt (ps_ret (pv_callK (pa_c (pv_var rfl) pa_n) (pa_c pv_c pa_n) (v_is_from h))))
theorem mapO_bl {α : Type} (f : α → Bool) : ∀ xs : List α, mapO truthD (xs.map fun x => D.bl (f x)) = some (xs.map f)
  | [] => rfl
  | x :: xs => by
    rw [List.map_cons]
    unfold mapO
    rw [mapO_bl f xs]
    rfl
theorem v_is_name (h : Lk S d) (hs : ∀ l, d = .str l → l.length ≤ big) : Fv (cal (n + 1)) 18 [d] S (.bl (nameB d)) := by
  refine fv_wf fun w => fv_body (c := cal n) (fun _ _ => rfl) (ps_rt (ps_ret ?_))
  cases d with
  | str l =>
    have hl := hs l rfl
    refine Pv.to (pv_and (pv_is (pv_var rfl) (tys_of rfl)) fun _ => pv_and (pv_chain pv_c (pv_b (pa_c (pv_var rfl) pa_n) fun _ => len_s hl) (fun _ => le_i) (fun _ => pv_c) fun _ _ => le_i) fun _ =>
      pv_all (pl_lc (f := fun x => .bl (match x with | .str [a] => decide (97 ≤ a) && decide (a ≤ 122) | _ => false)) (pi_str (pv_var rfl)) (fun x hx => ?_) (by rw [List.length_map]; exact hl)) (mapO_bl _ _)) ?_
    · obtain ⟨a, ha, rfl⟩ := List.mem_map.mp hx
      exact ⟨_, fun _ => rfl, pv_bin (pv_var rfl) pv_c fun S1 => in_lets⟩
    · rw [List.map_map, List.all_map]
      unfold nameB
      have e1 : decide ((1 : Int) ≤ l.length) = decide (1 ≤ l.length) := by
        rw [Bool.eq_iff_iff]; simp only [decide_eq_true_eq]; omega
      have e2 : decide ((l.length : Int) ≤ 8) = decide (l.length ≤ 8) := by
        rw [Bool.eq_iff_iff]; simp only [decide_eq_true_eq]; omega
      rw [e1, e2]
      rfl
  | obj p =>
    obtain ⟨t, h⟩ := h
    refine pv_and_f (Pv.to (pv_is (pv_var rfl) h) ?_)
    rcases ty_obj w h with rfl | rfl <;> rfl
  | _ =>
    obtain ⟨t, h⟩ := h
    cases h S (.refl w)
    try exact pv_and_f (pv_is (pv_var rfl) h)
end
end Ev
set_option Elab.async false
set_option linter.all false
set_option maxRecDepth 100000
set_option maxHeartbeats 0
namespace Ev
theorem ix_l {S : Sto} {p : Po} {k : Nat} {xs : List D} {i : Int} {d : D} (h : S.get p = some (.lst k xs)) (hi : ixD xs i = some d) : dSub' (.obj p) (.int i) S = .ok d S := by
  unfold dSub'
  dsimp only
  rw [h]
  dsimp only
  rw [hi]
theorem ix_t {S : Sto} {w : Bool} {xs : List D} {i : Int} {d : D} (hi : ixD xs i = some d) : dSub' (.tup w xs) (.int i) S = .ok d S := by
  unfold dSub'
  dsimp only
  rw [hi]
theorem len_l {S : Sto} {p : Po} {k : Nat} {xs : List D} (h : S.get p = some (.lst k xs)) : bLen [.obj p] S = .ok (.int xs.length) S := by
  unfold bLen
  dsimp only
  rw [seqD_lst h]
  rfl
theorem in_two {w a b : List Nat} {S : Sto} : dIn (.str w) (.tup true [.str a, .str b]) S = .ok (.bl (decide (w = a) || decide (w = b))) S := by
  have e : dIn (.str w) (.tup true [.str a, .str b]) S = .ok (.bl (leq a w || (leq b w || false))) S := rfl
  rw [e, leq_dec, leq_dec, Bool.or_false, show decide (a = w) = decide (w = a) from by simp [eq_comm], show decide (b = w) = decide (w = b) from by simp [eq_comm]]
theorem Lk.str {S : Sto} {d : D} (w : Wf S) (h : Lk S d) : (∃ l, d = .str l) ∨ ∃ t, TyS S d t ∧ t ≠ .str := by
  obtain ⟨t, h⟩ := h
  cases d with
  | str l => exact .inl ⟨l, rfl⟩
  | obj p => exact .inr ⟨t, h, by rcases ty_obj w h with rfl | rfl <;> decide⟩
  | _ => exact .inr ⟨t, h, by (cases h S (.refl w)) <;> decide⟩
theorem Lk.tup {S : Sto} {d : D} (w : Wf S) (h : Lk S d) : (∃ q xs, d = .tup q xs) ∨ ∃ t, TyS S d t ∧ t ≠ .tup := by
  obtain ⟨t, h⟩ := h
  cases d with
  | tup q xs => exact .inl ⟨q, xs, rfl⟩
  | obj p => exact .inr ⟨t, h, by rcases ty_obj w h with rfl | rfl <;> decide⟩
  | _ => exact .inr ⟨t, h, by (cases h S (.refl w)) <;> decide⟩
theorem isk_ne {T t : Tyn} (h : t ≠ T) (hb : T ≠ .int) : isk T t = false := by
  unfold isk
  rw [decide_eq_false h, decide_eq_false hb, Bool.and_false]; rfl
theorem dec_b {a b : Prop} [Decidable a] [Decidable b] (h : a ↔ b) : decide a = decide b := decide_eq_decide.mpr h
local macro_rules
  | `(tactic| nofun) => `(tactic| first
    | exact pv_var rfl
    | exact pv_c
    | exact pa_n
    | exact pt_yes
    | exact po_no
    | assumption
    | (with_reducible apply po_part
       nofun)
    | (with_reducible apply pa_c
       · nofun
       · nofun)
    | (with_reducible apply pt_of
       nofun)
    | (with_reducible apply pt_not
       nofun)
    | (with_reducible apply pt_or_t
       with_reducible apply Pt.to
       · nofun
       · first | rfl | (simp [*]; done))
    | (with_reducible apply pt_or
       · nofun
       · (intro _
          nofun))
    | (with_reducible apply pt_and_f
       with_reducible apply Pt.to
       · nofun
       · first | rfl | (simp [*]; done))
    | (with_reducible apply pt_and
       · nofun
       · (intro _
          nofun))
    | (with_reducible apply pv_and_f
       with_reducible apply Pv.to
       · nofun
       · first | rfl | (simp [*]; done))
    | (with_reducible apply pv_and
       · nofun
       · (intro _
          nofun))
    | (with_reducible apply pv_or_t
       with_reducible apply Pv.to
       · nofun
       · first | rfl | (simp [*]; done))
    | (with_reducible apply pv_or
       · nofun
       · (intro _
          nofun))
    | (with_reducible apply pv_not
       nofun)
    | (with_reducible apply pv_neg
       nofun)
    | (with_reducible apply pv_is
       · nofun
       · first | exact tys_of rfl | assumption)
    | (with_reducible apply pv_tup
       · nofun
       · exact of_decide_eq_true rfl)
    | (with_reducible apply pl_lst
       · nofun
       · exact of_decide_eq_true rfl)
    | (with_reducible apply pv_call
       · nofun
       · assumption)
    | (with_reducible apply pl_call
       · nofun
       · assumption)
    | (with_reducible apply pv_callK
       · nofun
       · nofun
       · assumption)
    | (with_reducible apply pv_b
       · nofun
       · first | exact fun _ => len_t | exact fun _ => len_s (by assumption) | exact fun _ => rfl)
    | (with_reducible apply pv_bS
       · nofun
       · exact fun _ l => len_l (l.get (by assumption)))
    | (with_reducible apply pv_bin
       · nofun
       · nofun
       · first | exact fun _ => le_i | exact fun _ => lt_i | exact fun _ => gt_i | exact fun _ => ge_i | exact fun _ => eq_i | exact fun _ => ne_i | exact fun _ => eq_s | exact fun _ => ne_s | exact fun _ => in_two | exact fun _ => ix_t rfl | exact fun _ => rfl)
    | (with_reducible apply pv_binS
       · nofun
       · nofun
       · exact fun _ l => ix_l (l.get (by assumption)) rfl)
    | (with_reducible apply pv_chain
       · nofun
       · nofun
       · exact fun _ => le_i
       · (intro _
          nofun)
       · exact fun _ _ => le_i)
    | (with_reducible apply pv_bm
       · nofun
       · nofun
       · exact fun _ => rfl
       · exact fun _ => rfl)
    | (with_reducible apply pv_tupl
       nofun))
theorem frmB_int {lo hi : Int} (d : D) : frmB lo hi d = false ∨ ∃ i, d = .int i := by
  cases d with
  | int i => exact .inr ⟨i, rfl⟩
  | _ => exact .inl rfl
section
variable {S : Sto} {n : Nat} {d : D} {t : Tyn}
theorem deedB_tup {d : D} (h : ∀ q xs, d ≠ .tup q xs) : deedB d = false := by
  cases d <;> try rfl
  exact absurd rfl (h _ _)
theorem v_is_deed (h : Lk S d) (hs : ∀ q xs, d = .tup q xs → Sma d) : Fv (cal (n + 4)) 19 [d] S (.bl (deedB d)) := by
  refine fv_wf fun w => fv_body (c := cal (n + 3)) (fun _ _ => rfl) ?_
  rcases h.tup w with ⟨q, xs, rfl⟩ | ⟨t, ht, hne⟩
  · have hm := hs q xs rfl
    simp only [Sma] at hm
    match xs, hm with
    | [], _ =>
      apply ps_ifr
      · nofun
      · exact fun _ => pv_c
      · intro hk; cases hk
    | [x], _ =>
      apply ps_ifr
      · nofun
      · refine fun _ => Pv.to pv_c ?_
        cases x <;> rfl
      · intro hk; cases hk
    | x :: y :: rest, hm =>
      have hk2 : decide (((x :: y :: rest).length : Int) < 2) = false := decide_eq_false (by simp only [List.length_cons]; omega)
      simp only [Smas] at hm
      rcases (hm.1.1.lk (S := S)).str w with ⟨l, rfl⟩ | ⟨t, ht, hne⟩
      · apply ps_ifr
        · nofun
        · intro hk
          rw [hk2] at hk
          cases hk
        · intro _
          refine ps_star (pv_var rfl) (by have := hm.2; simp only [List.length_cons] at this ⊢; omega) fun p S1 l1 g1 n1 => ?_
          have hy := hm.1.2.1
          have c1 := v_is_name (S := S1) (n := n + 2) (d := y) hy.lk (fun l e => by subst e; exact hy)
          cases rest with
          | nil =>
            apply ps_ifr
            · nofun
            · intro hk
              apply Pv.to
              · nofun
              · simp at hk
                rcases hk with rfl | rfl <;> simp [deedB, sDrop]
            · intro hk
              apply ps_ifr
              · nofun
              · intro hk2
                apply Pv.to
                · nofun
                · simp at hk2
                  simp [deedB, hk2, sDrop]
              · intro hk2
                apply ps_ifr
                · nofun
                · intro hk3
                  apply Pv.to
                  · nofun
                  · simp at hk2
                    simp [deedB, hk2, sDrop]
                · intro hk3
                  simp at hk3
          | cons z rest =>
            have hz := hm.1.2.2.1
            cases rest with
            | nil =>
              have c2 := v_is_from (S := S1) (n := n + 1) (d := z) (lo := 0 - 1000000000000) (hi := 1000000000000) hz.lk
              have c3 := v_is_house (S := S1) (n := n) (d := y) hy.lk
              have c4 := v_is_house (S := S1) (n := n) (d := z) hz.lk
              apply ps_ifr
              · nofun
              · intro hk
                apply Pv.to
                · nofun
                · simp at hk
                  rcases hk with rfl | rfl <;> simp [deedB, sPut, sAdd, sSwap]
              · intro hk
                apply ps_ifr
                · nofun
                · intro hk2
                  apply Pv.to
                  · nofun
                  · simp at hk hk2
                    simp [deedB, hk2, sDrop, sPut, sAdd, sSwap]
                · intro hk2
                  apply ps_ifr
                  · nofun
                  · intro hk3
                    apply Pv.to
                    · nofun
                    · simp at hk hk2 hk3
                      simp [deedB, hk, hk2, hk3, sDrop, sPut, sAdd, sSwap]
                  · intro hk3
                    refine ps_fin ?_
                    have hw : l = sSwap := by simpa [sSwap] using hk3
                    subst hw
                    have e : deedB (.tup q [.str sSwap, y, z]) = (frmB 0 30 y && (frmB 0 30 z && !feq y z)) := by simp [deedB, sSwap, sPut, sAdd]
                    rw [e]
                    rcases frmB_int (lo := 0) (hi := 30) y with hy2 | ⟨i, rfl⟩
                    · apply Pv.to
                      · nofun
                      · rw [hy2]; rfl
                    · rcases frmB_int (lo := 0) (hi := 30) z with hz2 | ⟨j, rfl⟩
                      · apply Pv.to
                        · nofun
                        · rw [hz2]; simp
                      · apply Pv.to
                        · nofun
                        · rw [← ieq_dec]; rfl
            | cons z2 rest =>
              have hf : deedB (.tup q (.str l :: y :: z :: z2 :: rest)) = false := rfl
              rw [hf]
              have h3 : decide (((y :: z :: z2 :: rest).length : Int) = 2) = false := decide_eq_false (by simp only [List.length_cons]; omega)
              have h4 : decide (((y :: z :: z2 :: rest).length : Int) = 1) = false := decide_eq_false (by simp only [List.length_cons]; omega)
              apply ps_ifr
              · nofun
              · intro hk
                apply pv_and_f
                apply Pv.to
                · nofun
                · rw [h3]
              · intro hk
                apply ps_ifr
                · nofun
                · intro hk2
                  apply pv_and_f
                  apply Pv.to
                  · nofun
                  · rw [h4]
                · intro hk2
                  apply ps_ifr
                  · nofun
                  · exact fun _ => pv_c
                  · intro hk3
                    rw [h3] at hk3
                    simp at hk3
      · have hf : deedB (.tup q (x :: y :: rest)) = false := by
          cases x with
          | str l => exact absurd (Option.some.inj (ht S (.refl w))).symm hne
          | _ => rfl
        have hi := isk_ne hne (by decide)
        apply ps_ifr
        · nofun
        · intro _
          exact pv_c.to (by rw [hf])
        · intro hk
          rw [hi] at hk
          simp at hk
  · refine ps_ifr (k := true) (pt_or_t (Pt.to (pt_not (pt_of (pv_is (pv_var rfl) ht))) (by rw [isk_ne hne (by decide)]; rfl))) (fun _ => Pv.to pv_c ?_) (fun h => by cases h)
    rw [deedB_tup]
    rintro q xs rfl
    exact hne (Option.some.inj (ht S (.refl w))).symm
end
end Ev
set_option Elab.async false
set_option linter.all false
set_option maxRecDepth 100000
set_option maxHeartbeats 0
namespace Ev
local macro_rules
  | `(tactic| nofun) => `(tactic| first
    | exact pv_var rfl
    | exact pv_c
    | exact pa_n
    | exact pt_yes
    | exact po_no
    | assumption
    | (with_reducible apply po_part
       nofun)
    | (with_reducible apply pa_c
       · nofun
       · nofun)
    | (with_reducible apply pt_of
       nofun)
    | (with_reducible apply pt_not
       nofun)
    | (with_reducible apply pt_or_t
       with_reducible apply Pt.to
       · nofun
       · first | rfl | (simp [*]; done))
    | (with_reducible apply pt_or
       · nofun
       · (intro _
          nofun))
    | (with_reducible apply pt_and_f
       with_reducible apply Pt.to
       · nofun
       · first | rfl | (simp [*]; done))
    | (with_reducible apply pt_and
       · nofun
       · (intro _
          nofun))
    | (with_reducible apply pv_and_f
       with_reducible apply Pv.to
       · nofun
       · first | rfl | (simp [*]; done))
    | (with_reducible apply pv_and
       · nofun
       · (intro _
          nofun))
    | (with_reducible apply pv_or_t
       with_reducible apply Pv.to
       · nofun
       · first | rfl | (simp [*]; done))
    | (with_reducible apply pv_or
       · nofun
       · (intro _
          nofun))
    | (with_reducible apply pv_not
       nofun)
    | (with_reducible apply pv_neg
       nofun)
    | (with_reducible apply pv_is
       · nofun
       · first | exact tys_of rfl | assumption)
    | (with_reducible apply pv_tup
       · nofun
       · exact of_decide_eq_true rfl)
    | (with_reducible apply pl_lst
       · nofun
       · exact of_decide_eq_true rfl)
    | (with_reducible apply pv_call
       · nofun
       · assumption)
    | (with_reducible apply pl_call
       · nofun
       · assumption)
    | (with_reducible apply pv_callK
       · nofun
       · nofun
       · assumption)
    | (with_reducible apply pv_b
       · nofun
       · first | exact fun _ => len_t | exact fun _ => len_s (by assumption) | exact fun _ => rfl)
    | (with_reducible apply pv_bS
       · nofun
       · exact fun _ l => len_l (l.get (by assumption)))
    | (with_reducible apply pv_bin
       · nofun
       · nofun
       · first | exact fun _ => le_i | exact fun _ => lt_i | exact fun _ => gt_i | exact fun _ => ge_i | exact fun _ => eq_i | exact fun _ => ne_i | exact fun _ => eq_s | exact fun _ => ne_s | exact fun _ => in_two | exact fun _ => ix_t rfl | exact fun _ => rfl)
    | (with_reducible apply pv_binS
       · nofun
       · nofun
       · exact fun _ l => ix_l (l.get (by assumption)) rfl)
    | (with_reducible apply pv_chain
       · nofun
       · nofun
       · exact fun _ => le_i
       · (intro _
          nofun)
       · exact fun _ _ => le_i)
    | (with_reducible apply pv_bm
       · nofun
       · nofun
       · exact fun _ => rfl
       · exact fun _ => rfl)
    | (with_reducible apply pv_tupl
       nofun))

section
variable {S : Sto} {n : Nat} {d : D} {t : Tyn}
theorem pv_calll {c : Cal} {env : Slots} {j : Nat} {a : Ev} {xs : List D} {d : D} (ha : Pl c env S a xs) (hf : ∀ p S1, Le S S1 → S1.get p = some (.lst 0 xs) → Fv c j [.obj p] S1 d) : Pv c env S (eCall j [] (aCons a aNil)) d := fun S1 l => by
  obtain ⟨p, S2, e2, l2, g2, n2⟩ := ha S1 l
  obtain ⟨S3, e3, l3⟩ := hf p S2 (l.trans l2) g2 S2 (.refl l2.wf)
  exact ⟨S3, by unfold eCall aCons; rw [e2]; exact e3, l2.trans l3⟩
theorem askB_tup {d : D} (h : ∀ q xs, d ≠ .tup q xs) : askB d = false := by
  cases d <;> try rfl
  exact absurd rfl (h _ _)
theorem v_is_ask (h : Lk S d) (hs : ∀ q xs, d = .tup q xs → Sma d) : Fv (cal (n + 5)) 21 [d] S (.bl (askB d)) := by
  refine fv_wf fun w => fv_body (c := cal (n + 4)) (fun _ _ => rfl) ?_
  rcases h.tup w with ⟨q, xs, rfl⟩ | ⟨t, ht, hne⟩
  · have hm := hs q xs rfl
    simp only [Sma] at hm
    by_cases hl : xs.length = 3
    · match xs, hl, hm with
      | [a, s, d], _, hm =>
        simp only [Smas] at hm
        have c1 := v_is_asker (S := S) (n := n + 1) (d := a) hm.1.1.lk
        have c2 := v_is_from (S := S) (n := n + 2) (d := s) (lo := 1) (hi := 1000000000) hm.1.2.1.lk
        have c3 := v_is_deed (S := S) (n := n) (d := d) hm.1.2.2.1.lk fun _ _ _ => hm.1.2.2.1
        apply ps_ifr
        · nofun
        · intro hk; cases hk
        · intro _
          apply ps_fin
          apply Pv.to
          · nofun
          · rfl
    · have e : decide ((xs.length : Int) = 3) = false := decide_eq_false (by omega)
      have hf : askB (.tup q xs) = false := by
        match xs, hl with
        | [], _ => rfl
        | [_], _ => rfl
        | [_, _], _ => rfl
        | [_, _, _], h => exact absurd rfl h
        | _ :: _ :: _ :: _ :: _, _ => rfl
      apply ps_ifr
      · nofun
      · exact fun _ => pv_c.to (by rw [hf])
      · intro hk
        rw [e] at hk
        cases hk
  · refine ps_ifr (k := true) (pt_or_t (Pt.to (pt_not (pt_of (pv_is (pv_var rfl) ht))) (by rw [isk_ne hne (by decide)]; rfl))) (fun _ => Pv.to pv_c ?_) (fun h => by cases h)
    rw [askB_tup]
    rintro q xs rfl
    exact hne (Option.some.inj (ht S (.refl w))).symm
/-! rises -/
def ltD : D → D → Bool
  | .int i, .int j => decide (i < j)
  | .str a, .str b => llt a b
  | _, _ => false
def risD : List D → Bool
  | x :: y :: r => ltD x y && risD (y :: r)
  | _ => true
def lt2 : D → Bool
  | .tup _ [x, y] => ltD x y
  | _ => false
theorem risD_zip : ∀ xs : List D, ((zipD xs (xs.drop 1)).map lt2).all id = risD xs
  | [] => rfl
  | [x] => rfl
  | x :: y :: r => by
    have := risD_zip (y :: r)
    show (ltD x y && ((zipD (y :: r) ((y :: r).drop 1)).map lt2).all id) = _
    rw [this]; rfl
/-- numbers alone, or texts alone -/
def Alike (xs : List D) : Prop := (∀ x ∈ xs, ∃ i, x = .int i) ∨ ∀ x ∈ xs, ∃ a, x = .str a
theorem zipD_mem : ∀ {xs ys : List D} {z : D}, z ∈ zipD xs ys → ∃ x y, z = .tup true [x, y] ∧ x ∈ xs ∧ y ∈ ys
  | x :: xs, y :: ys, z, h => by
    simp only [zipD, List.mem_cons] at h
    rcases h with rfl | h
    · exact ⟨x, y, rfl, by simp, by simp⟩
    · obtain ⟨a, b, e, h1, h2⟩ := zipD_mem h
      exact ⟨a, b, e, List.mem_cons_of_mem _ h1, List.mem_cons_of_mem _ h2⟩
  | [], _, _, h => by simp [zipD] at h
  | _ :: _, [], _, h => by simp [zipD] at h
theorem cut_nat {α : Type} (xs : List α) (a b : Nat) : cutD xs (some (a : Int)) (some (b : Int)) = (xs.drop a).take (b - a) := by
  unfold cutD
  rw [HT.sIx_nat, HT.sIx_nat]
  rcases Nat.le_total a xs.length with h | h
  · rw [Nat.min_eq_left h]
    rcases Nat.le_total b xs.length with h2 | h2
    · rw [Nat.min_eq_left h2]
    · rw [Nat.min_eq_right h2, List.take_of_length_le (by simp), List.take_of_length_le (by simp; omega)]
  · rw [Nat.min_eq_right h, List.drop_eq_nil_of_le h, List.drop_eq_nil_of_le (Nat.le_refl _)]; simp
theorem cut_from {α : Type} (xs : List α) (a : Nat) : cutD xs (some (a : Int)) none = xs.drop a := by
  unfold cutD
  rw [HT.sIx_nat, HT.sIx_none]
  rcases Nat.le_total a xs.length with h | h
  · rw [Nat.min_eq_left h, List.take_of_length_le (by simp)]
  · rw [Nat.min_eq_right h, List.drop_eq_nil_of_le h, List.drop_eq_nil_of_le (Nat.le_refl _)]; simp
theorem cut_to {α : Type} (xs : List α) (b : Nat) : cutD xs none (some (b : Int)) = xs.take b := by
  unfold cutD
  rw [HT.sIx_nat, HT.sIx_none, List.drop_zero, Nat.sub_zero]
  rcases Nat.le_total b xs.length with h | h
  · rw [Nat.min_eq_left h]
  · rw [Nat.min_eq_right h, List.take_of_length_le (Nat.le_refl _), List.take_of_length_le h]
theorem cut1 (xs : List D) : cutD xs (some 1) none = xs.drop 1 := cut_from xs 1
theorem v_rises {p : Po} {k : Nat} {xs : List D} (hp : S.get p = some (.lst k xs)) (ha : Alike xs) (hl : xs.length ≤ big) : Fv (cal (n + 1)) 22 [.obj p] S (.bl (risD xs)) := by
  refine fv_body (c := cal n) (fun _ _ => rfl) (ps_fin ?_)
  have hsl : Pl (cal n) (List.map some [D.obj p] ++ List.replicate (3 - [D.obj p].length) none) S (eSl (eVar 0) (oPart (eC (.int 1))) oNo) (cutD xs (some 1) none) :=
    pl_sl (pv_var rfl) (po_part pv_c) po_no (seqD_lst hp) fun S1 l => seqD_lst (l.get hp)
  rw [cut1] at hsl
  refine Pv.to (pv_all (pl_lc (f := fun x => .bl (lt2 x)) (pi_zip (pv_var rfl) (fun S1 l => seqD_lst (l.get hp)) hsl) (fun x hx => ?_) (Nat.le_trans (zipD_len _ _) hl)) (mapO_bl _ _)) (by rw [risD_zip])
  obtain ⟨a, b, rfl, h1, h2⟩ := zipD_mem hx
  have h2 := List.mem_of_mem_drop h2
  refine ⟨_, fun _ => rfl, ?_⟩
  rcases ha with ha | ha
  · obtain ⟨i, rfl⟩ := ha a h1
    obtain ⟨j, rfl⟩ := ha b h2
    exact pv_bin (pv_var rfl) (pv_var rfl) fun _ => lt_i
  · obtain ⟨i, rfl⟩ := ha a h1
    obtain ⟨j, rfl⟩ := ha b h2
    exact pv_bin (pv_var rfl) (pv_var rfl) fun _ => rfl
end
end Ev
set_option Elab.async false
set_option linter.all false
set_option maxRecDepth 100000
set_option maxHeartbeats 0
namespace Ev
local macro_rules
  | `(tactic| nofun) => `(tactic| first
    | exact pv_var rfl
    | exact pv_c
    | exact pa_n
    | exact pt_yes
    | exact po_no
    | assumption
    | (with_reducible apply po_part
       nofun)
    | (with_reducible apply pa_c
       · nofun
       · nofun)
    | (with_reducible apply pt_of
       nofun)
    | (with_reducible apply pt_not
       nofun)
    | (with_reducible apply pt_or_t
       with_reducible apply Pt.to
       · nofun
       · first | rfl | (simp [*]; done))
    | (with_reducible apply pt_or
       · nofun
       · (intro _
          nofun))
    | (with_reducible apply pt_and_f
       with_reducible apply Pt.to
       · nofun
       · first | rfl | (simp [*]; done))
    | (with_reducible apply pt_and
       · nofun
       · (intro _
          nofun))
    | (with_reducible apply pv_and_f
       with_reducible apply Pv.to
       · nofun
       · first | rfl | (simp [*]; done))
    | (with_reducible apply pv_and
       · nofun
       · (intro _
          nofun))
    | (with_reducible apply pv_or_t
       with_reducible apply Pv.to
       · nofun
       · first | rfl | (simp [*]; done))
    | (with_reducible apply pv_or
       · nofun
       · (intro _
          nofun))
    | (with_reducible apply pv_not
       nofun)
    | (with_reducible apply pv_neg
       nofun)
    | (with_reducible apply pv_is
       · nofun
       · first | exact tys_of rfl | assumption)
    | (with_reducible apply pv_tup
       · nofun
       · exact of_decide_eq_true rfl)
    | (with_reducible apply pl_lst
       · nofun
       · exact of_decide_eq_true rfl)
    | (with_reducible apply pv_call
       · nofun
       · assumption)
    | (with_reducible apply pl_call
       · nofun
       · assumption)
    | (with_reducible apply pv_callK
       · nofun
       · nofun
       · assumption)
    | (with_reducible apply pv_b
       · nofun
       · first | exact fun _ => len_t | exact fun _ => len_s (by assumption) | exact fun _ => rfl)
    | (with_reducible apply pv_bS
       · nofun
       · exact fun _ l => len_l (l.get (by assumption)))
    | (with_reducible apply pv_bin
       · nofun
       · nofun
       · first | exact fun _ => le_i | exact fun _ => lt_i | exact fun _ => gt_i | exact fun _ => ge_i | exact fun _ => eq_i | exact fun _ => ne_i | exact fun _ => eq_s | exact fun _ => ne_s | exact fun _ => in_two | exact fun _ => ix_t rfl | exact fun _ => rfl)
    | (with_reducible apply pv_binS
       · nofun
       · nofun
       · exact fun _ l => ix_l (l.get (by assumption)) rfl)
    | (with_reducible apply pv_chain
       · nofun
       · nofun
       · exact fun _ => le_i
       · (intro _
          nofun)
       · exact fun _ _ => le_i)
    | (with_reducible apply pv_bm
       · nofun
       · nofun
       · exact fun _ => rfl
       · exact fun _ => rfl)
    | (with_reducible apply pv_tupl
       nofun))

section
variable {S : Sto} {n : Nat} {d : D} {t : Tyn}
/-! books -/
def bokEB : D → Bool
  | .tup _ [a, b] => nameB a && intB b
  | _ => false
def fstD : D → D
  | .tup _ (x :: _) => x
  | _ => .non
def bookB : D → Bool
  | .tup _ xs => xs.all bokEB && risD (xs.map fstD)
  | _ => false
theorem nameB_str {d : D} (h : nameB d = true) : ∃ a, d = .str a := by
  cases d with
  | str a => exact ⟨a, rfl⟩
  | _ => cases h
theorem bokEB_form {x : D} (h : bokEB x = true) : ∃ q a b, x = .tup q [.str a, b] ∧ nameB (.str a) = true ∧ intB b = true := by
  unfold bokEB at h
  split at h
  · rename_i q a b
    rw [Bool.and_eq_true] at h
    obtain ⟨l, rfl⟩ := nameB_str h.1
    exact ⟨q, l, b, rfl, h.1, h.2⟩
  · cases h
theorem fsts {xs : List D} (h : ∀ x ∈ xs, bokEB x = true) : Alike (xs.map fstD) := .inr fun x hx => by
  obtain ⟨y, hy, rfl⟩ := List.mem_map.mp hx
  obtain ⟨q, a, b, rfl, _, _⟩ := bokEB_form (h y hy)
  exact ⟨a, rfl⟩
/-- what can be looked at as no tuple -/
theorem pt_ntup {c : Cal} {env : Slots} {e : Ev} (w : Wf S) (he : Pv c env S e d) (h : Lk S d) (hn : ∀ q xs, d ≠ .tup q xs) : Pt c env S (tNot' (tOf (eIs .tup e))) true := by
  rcases h.tup w with ⟨q, xs, rfl⟩ | ⟨t, ht, hne⟩
  · exact absurd rfl (hn _ _)
  · exact Pt.to (pt_not (pt_of (pv_is he ht))) (by rw [isk_ne hne (by decide)]; rfl)
theorem v_is_book (h : Lk S d) (hs : ∀ q xs, d = .tup q xs → Sma d) : Fv (cal (n + 2)) 23 [d] S (.bl (bookB d)) := by
  refine fv_wf fun w => fv_body (c := cal (n + 1)) (fun _ _ => rfl) ?_
  by_cases hd : ∃ q xs, d = .tup q xs
  · obtain ⟨q, xs, rfl⟩ := hd
    have hm := hs q xs rfl
    simp only [Sma] at hm
    apply ps_ifr
    · nofun
    · intro hk; cases hk
    · intro _
      refine ps_for_all (xs := xs) (d := .bl false) bokEB (fun env => ∃ o, env = [some (.tup q xs), o]) (pi_tup (pv_var rfl)) ⟨none, rfl⟩ (fun x hx env he => ?_) (fun hall env he => ?_) (fun x hx hg => ?_)
      · obtain ⟨o, rfl⟩ := he
        refine ⟨[some (.tup q xs), some x], fun _ => rfl, ?_⟩
        have hx1 := Smas.mem hm.1 hx
        by_cases hxt : ∃ q2 ys, x = .tup q2 ys
        · obtain ⟨q2, ys, rfl⟩ := hxt
          simp only [Sma] at hx1
          by_cases hl : ys.length = 2
          · match ys, hl, hx1 with
            | [a, b], _, hx1 =>
              simp only [Smas] at hx1
              have ha := hx1.1.1
              have c1 := v_is_name (S := S) (n := n) (d := a) ha.lk (fun l e => by subst e; exact ha)
              have c2 := v_is_whole (S := S) (n := n) (d := b) hx1.1.2.1.lk
              have key : Pt (cal (n + 1)) [some (.tup q xs), some (.tup q2 [a, b])] S (tOr' (tNot' (tOf (eIs .tup (eVar 1)))) (tOr' (tOf (eBin dNe (eB bLen (aCons (eVar 1) aNil)) (eC (.int 2)))) (tOr' (tNot' (tOf (eCall 18 [] (aCons (eBin dSub' (eVar 1) (eC (.int 0))) aNil)))) (tNot' (tOf (eCall 9 [] (aCons (eBin dSub' (eVar 1) (eC (.int 1))) aNil)))))))
                  (!(nameB a && intB b)) := by
                apply Pt.to
                · nofun
                · cases nameB a <;> cases intB b <;> rfl
              refine ⟨fun hg => ?_, fun hg => ?_⟩
              · exact ⟨_, ps_seq (ps_if key (fun h => by rw [show (nameB a && intB b) = true from hg] at h; cases h) fun _ => ps_nil) ps_nil, _, rfl⟩
              · exact ps_rt (ps_if key (fun _ => ps_fin pv_c) fun h => by rw [show (nameB a && intB b) = false from hg] at h; cases h)
          · have e : decide ((ys.length : Int) = 2) = false := decide_eq_false (by omega)
            have hf : bokEB (.tup q2 ys) = false := by
              match ys, hl with
              | [], _ => rfl
              | [_], _ => rfl
              | [_, _], h => exact absurd rfl h
              | _ :: _ :: _ :: _, _ => rfl
            refine ⟨fun hg => (by rw [hf] at hg; cases hg), fun hg => ?_⟩
            apply ps_rt
            apply ps_if
            · nofun
            · exact fun _ => ps_fin pv_c
            · intro hk
              cases hk
        · have hf : bokEB x = false := by
            cases x <;> try rfl
            exact absurd ⟨_, _, rfl⟩ hxt
          refine ⟨fun hg => (by rw [hf] at hg; cases hg), fun hg => ?_⟩
          exact ps_rt (ps_if (k := true) (pt_or_t (pt_ntup w (pv_var rfl) hx1.lk fun q ys e => hxt ⟨q, ys, e⟩)) (fun _ => ps_fin pv_c) fun h => by cases h)
      · obtain ⟨o, rfl⟩ := he
        refine ps_fin (Pv.to (pv_calll (pl_lc (f := fstD) (pi_tup (pv_var rfl)) (fun x hx => ?_) (by have := hm.2; unfold big; omega)) fun p S1 l g => v_rises (n := n) g (fsts hall) (by rw [List.length_map]; have := hm.2; unfold big; omega)) ?_)
        · obtain ⟨q2, a, b, rfl, _, _⟩ := bokEB_form (hall x hx)
          exact ⟨_, fun _ => rfl, pv_bin (pv_var rfl) pv_c fun _ => ix_t rfl⟩
        · show D.bl _ = D.bl (xs.all bokEB && _)
          rw [List.all_eq_true.mpr hall, Bool.true_and]
      · show Out.rt (D.bl (xs.all bokEB && _)) = _
        rw [List.all_eq_false.mpr ⟨x, hx, by rw [hg]; exact Bool.false_ne_true⟩, Bool.false_and]
  · refine ps_ifr (k := true) (pt_ntup w (pv_var rfl) h fun q ys e => hd ⟨q, ys, e⟩) (fun _ => Pv.to pv_c ?_) (fun h => by cases h)
    have : bookB d = false := by
      cases d <;> try rfl
      exact absurd ⟨_, _, rfl⟩ hd
    rw [this]
end
end Ev
set_option Elab.async false
set_option linter.all false
set_option maxRecDepth 100000
set_option maxHeartbeats 0
namespace Ev
local macro_rules
  | `(tactic| nofun) => `(tactic| first
    | exact pv_var rfl
    | exact pv_c
    | exact pa_n
    | exact pt_yes
    | exact po_no
    | assumption
    | (with_reducible apply po_part
       nofun)
    | (with_reducible apply pa_c
       · nofun
       · nofun)
    | (with_reducible apply pt_of
       nofun)
    | (with_reducible apply pt_not
       nofun)
    | (with_reducible apply pt_or_t
       with_reducible apply Pt.to
       · nofun
       · first | rfl | (simp [*]; done))
    | (with_reducible apply pt_or
       · nofun
       · (intro _
          nofun))
    | (with_reducible apply pt_and_f
       with_reducible apply Pt.to
       · nofun
       · first | rfl | (simp [*]; done))
    | (with_reducible apply pt_and
       · nofun
       · (intro _
          nofun))
    | (with_reducible apply pv_and_f
       with_reducible apply Pv.to
       · nofun
       · first | rfl | (simp [*]; done))
    | (with_reducible apply pv_and
       · nofun
       · (intro _
          nofun))
    | (with_reducible apply pv_or_t
       with_reducible apply Pv.to
       · nofun
       · first | rfl | (simp [*]; done))
    | (with_reducible apply pv_or
       · nofun
       · (intro _
          nofun))
    | (with_reducible apply pv_not
       nofun)
    | (with_reducible apply pv_neg
       nofun)
    | (with_reducible apply pv_is
       · nofun
       · first | exact tys_of rfl | assumption)
    | (with_reducible apply pv_tup
       · nofun
       · exact of_decide_eq_true rfl)
    | (with_reducible apply pl_lst
       · nofun
       · exact of_decide_eq_true rfl)
    | (with_reducible apply pv_call
       · nofun
       · assumption)
    | (with_reducible apply pl_call
       · nofun
       · assumption)
    | (with_reducible apply pv_callK
       · nofun
       · nofun
       · assumption)
    | (with_reducible apply pv_b
       · nofun
       · first | exact fun _ => len_t | exact fun _ => len_s (by assumption) | exact fun _ => rfl)
    | (with_reducible apply pv_bS
       · nofun
       · exact fun _ l => len_l (l.get (by assumption)))
    | (with_reducible apply pv_bin
       · nofun
       · nofun
       · first | exact fun _ => le_i | exact fun _ => lt_i | exact fun _ => gt_i | exact fun _ => ge_i | exact fun _ => eq_i | exact fun _ => ne_i | exact fun _ => eq_s | exact fun _ => ne_s | exact fun _ => in_two | exact fun _ => ix_t rfl | exact fun _ => rfl)
    | (with_reducible apply pv_binS
       · nofun
       · nofun
       · exact fun _ l => ix_l (l.get (by assumption)) rfl)
    | (with_reducible apply pv_chain
       · nofun
       · nofun
       · exact fun _ => le_i
       · (intro _
          nofun)
       · exact fun _ _ => le_i)
    | (with_reducible apply pv_bm
       · nofun
       · nofun
       · exact fun _ => rfl
       · exact fun _ => rfl)
    | (with_reducible apply pv_tupl
       nofun))

section
variable {S : Sto} {n : Nat} {d : D} {t : Tyn}
/-! answers -/
def ansB : D → Bool
  | .non => true
  | .bl _ => true
  | .int _ => true
  | _ => false
theorem v_is_answer (h : Lk S d) : Fv (cal (n + 1)) 24 [d] S (.bl (ansB d)) := by
  refine fv_wf fun w => fv_body (c := cal n) (fun _ _ => rfl) (ps_fin ?_)
  obtain ⟨t, ht⟩ := h
  cases d with
  | non => exact pv_or_t (pv_bin (pv_var rfl) pv_c fun _ => rfl)
  | obj p => exact (pv_or (x := false) (pv_bin (pv_var rfl) pv_c fun _ => rfl) fun _ => pv_is (pv_var rfl) ht).to (by rcases ty_obj w ht with rfl | rfl <;> rfl)
  | _ => (cases ht S (.refl w)) <;> exact (pv_or (x := false) (pv_bin (pv_var rfl) pv_c fun _ => rfl) fun _ => pv_is (pv_var rfl) (tys_of rfl)).to rfl
def enaB : D → Bool
  | .tup _ [a, b, e] => frmB 0 9 a && (frmB 1 1000000000 b && ansB e)
  | _ => false
def anssB : D → Bool
  | .tup _ xs => xs.all enaB && risD (xs.map fstD)
  | _ => false
theorem enaB_form {x : D} (h : enaB x = true) : ∃ q i j e, x = .tup q [.int i, .int j, e] ∧ 0 ≤ i ∧ i ≤ 9 ∧ 1 ≤ j ∧ j ≤ 1000000000 ∧ ansB e = true := by
  unfold enaB at h
  split at h
  · rename_i q a b e
    simp only [Bool.and_eq_true] at h
    rcases frmB_int (lo := 0) (hi := 9) a with z | ⟨i, rfl⟩
    · rw [z] at h; cases h.1
    rcases frmB_int (lo := 1) (hi := 1000000000) b with z | ⟨j, rfl⟩
    · rw [z] at h; cases h.2.1
    have h1 := h.1
    have h2 := h.2.1
    simp only [frmB, Bool.and_eq_true, decide_eq_true_eq] at h1 h2
    exact ⟨q, i, j, e, rfl, h1.1, h1.2, h2.1, h2.2, h.2.2⟩
  · cases h
theorem fsta {xs : List D} (h : ∀ x ∈ xs, enaB x = true) : Alike (xs.map fstD) := .inl fun x hx => by
  obtain ⟨y, hy, rfl⟩ := List.mem_map.mp hx
  obtain ⟨q, i, j, e, rfl, _⟩ := enaB_form (h y hy)
  exact ⟨i, rfl⟩
theorem v_are_answers (h : Lk S d) (hs : ∀ q xs, d = .tup q xs → Sma d) : Fv (cal (n + 4)) 25 [d] S (.bl (anssB d)) := by
  refine fv_wf fun w => fv_body (c := cal (n + 3)) (fun _ _ => rfl) ?_
  by_cases hd : ∃ q xs, d = .tup q xs
  · obtain ⟨q, xs, rfl⟩ := hd
    have hm := hs q xs rfl
    simp only [Sma] at hm
    apply ps_ifr
    · nofun
    · intro hk; cases hk
    · intro _
      refine ps_for_all (xs := xs) (d := .bl false) enaB (fun env => ∃ o, env = [some (.tup q xs), o]) (pi_tup (pv_var rfl)) ⟨none, rfl⟩ (fun x hx env he => ?_) (fun hall env he => ?_) (fun x hx hg => ?_)
      · obtain ⟨o, rfl⟩ := he
        refine ⟨[some (.tup q xs), some x], fun _ => rfl, ?_⟩
        have hx1 := Smas.mem hm.1 hx
        by_cases hxt : ∃ q2 ys, x = .tup q2 ys
        · obtain ⟨q2, ys, rfl⟩ := hxt
          simp only [Sma] at hx1
          by_cases hl : ys.length = 3
          · match ys, hl, hx1 with
            | [a, b, e], _, hx1 =>
              simp only [Smas] at hx1
              have c1 := v_is_asker (S := S) (n := n) (d := a) hx1.1.1.lk
              have c2 := v_is_from (S := S) (n := n + 1) (d := b) (lo := 1) (hi := 1000000000) hx1.1.2.1.lk
              have c3 := v_is_answer (S := S) (n := n + 2) (d := e) hx1.1.2.2.1.lk
              cases hA : frmB 0 9 a with
              | false =>
                have hf : enaB (.tup q2 [a, b, e]) = false := by show (frmB 0 9 a && _) = false; rw [hA]; rfl
                refine ⟨fun hg => (by rw [hf] at hg; cases hg), fun hg => ?_⟩
                apply ps_rt
                apply ps_if
                · nofun
                · exact fun _ => ps_fin pv_c
                · intro hk
                  rw [hA] at hk
                  cases hk
              | true =>
                have key : Ps (cal (n + 3)) [some (.tup q xs), some (.tup q2 [a, b, e])] S (sIf (tOr' (tNot' (tOf (eIs .tup (eVar 1)))) (tOr' (tOf (eBin dNe (eB bLen (aCons (eVar 1) aNil)) (eC (.int 3)))) (tNot' (tOf (eCall 20 [] (aCons (eBin dSub' (eVar 1) (eC (.int 0))) aNil))))))
                    (sSeq (sRet (eC (.bl false))) sNil) sNil) (.nx [some (.tup q xs), some (.tup q2 [a, b, e])]) := by
                  apply ps_if
                  · nofun
                  · intro hk
                    rw [hA] at hk
                    cases hk
                  · exact fun _ => ps_nil
                have ek : enaB (.tup q2 [a, b, e]) = (frmB 1 1000000000 b && ansB e) := by show (frmB 0 9 a && _) = _; rw [hA]; rfl
                refine ⟨fun hg => ⟨[some (.tup q xs), some (.tup q2 [a, b, e])], ps_seq key (ps_seq ?_ ps_nil), _, rfl⟩, fun hg => ps_seq key (ps_rt ?_)⟩
                · apply ps_if
                  · nofun
                  · intro hk
                    rw [ek, Bool.and_eq_true] at hg
                    rw [hg.1, hg.2] at hk
                    cases hk
                  · exact fun _ => ps_nil
                · apply ps_if
                  · nofun
                  · exact fun _ => ps_fin pv_c
                  · intro hk
                    rw [ek] at hg
                    cases h1 : frmB 1 1000000000 b <;> cases h2 : ansB e <;> rw [h1, h2] at hk hg <;> first | (cases hg; done) | (cases hk; done)
          · have e : decide ((ys.length : Int) = 3) = false := decide_eq_false (by omega)
            have hf : enaB (.tup q2 ys) = false := by
              match ys, hl with
              | [], _ => rfl
              | [_], _ => rfl
              | [_, _], _ => rfl
              | [_, _, _], h => exact absurd rfl h
              | _ :: _ :: _ :: _ :: _, _ => rfl
            refine ⟨fun hg => (by rw [hf] at hg; cases hg), fun hg => ?_⟩
            apply ps_rt
            apply ps_if
            · nofun
            · exact fun _ => ps_fin pv_c
            · intro hk
              cases hk
        · have hf : enaB x = false := by
            cases x <;> try rfl
            exact absurd ⟨_, _, rfl⟩ hxt
          refine ⟨fun hg => (by rw [hf] at hg; cases hg), fun hg => ?_⟩
          exact ps_rt (ps_if (k := true) (pt_or_t (pt_ntup w (pv_var rfl) hx1.lk fun q ys e => hxt ⟨q, ys, e⟩)) (fun _ => ps_fin pv_c) fun h => by cases h)
      · obtain ⟨o, rfl⟩ := he
        refine ps_fin (Pv.to (pv_calll (pl_lc (f := fstD) (pi_tup (pv_var rfl)) (fun x hx => ?_) (by have := hm.2; unfold big; omega)) fun p S1 l g => v_rises (n := n + 2) g (fsta hall) (by rw [List.length_map]; have := hm.2; unfold big; omega)) ?_)
        · obtain ⟨q2, i, j, e, rfl, _⟩ := enaB_form (hall x hx)
          exact ⟨_, fun _ => rfl, pv_bin (pv_var rfl) pv_c fun _ => ix_t rfl⟩
        · show D.bl _ = D.bl (xs.all enaB && _)
          rw [List.all_eq_true.mpr hall, Bool.true_and]
      · show Out.rt (D.bl (xs.all enaB && _)) = _
        rw [List.all_eq_false.mpr ⟨x, hx, by rw [hg]; exact Bool.false_ne_true⟩, Bool.false_and]
  · refine ps_ifr (k := true) (pt_ntup w (pv_var rfl) h fun q ys e => hd ⟨q, ys, e⟩) (fun _ => Pv.to pv_c ?_) (fun h => by cases h)
    have : anssB d = false := by
      cases d <;> try rfl
      exact absurd ⟨_, _, rfl⟩ hd
    rw [this]
/-! members -/
def kyD : D → Ky
  | .int i => .inl i
  | _ => .inl 0
def setL (xs : List D) : Nat := (xs.foldl (fun a x => addK a (kyD x)) []).length
def memB : D → Bool
  | .tup _ xs => decide (1 ≤ xs.length) && decide (xs.length ≤ 7) && (xs.all (frmB 0 30) && decide (setL xs = xs.length))
  | _ => false
theorem v_is_members (h : Lk S d) (hs : ∀ q xs, d = .tup q xs → Sma d) : Fv (cal (n + 4)) 12 [d] S (.bl (memB d)) := by
  refine fv_wf fun w => fv_body (c := cal (n + 3)) (fun _ _ => rfl) ?_
  by_cases hd : ∃ q xs, d = .tup q xs
  · obtain ⟨q, xs, rfl⟩ := hd
    have hm := hs q xs rfl
    simp only [Sma] at hm
    have e1 : (decide ((1 : Int) ≤ xs.length) && decide ((xs.length : Int) ≤ 7)) = (decide (1 ≤ xs.length) && decide (xs.length ≤ 7)) := by
      rw [Bool.eq_iff_iff]; simp only [Bool.and_eq_true, decide_eq_true_eq]; omega
    apply ps_ifr
    · nofun
    · intro hk
      refine Pv.to pv_c ?_
      show D.bl false = D.bl (_ && _)
      rw [e1] at hk
      cases hz : (decide (1 ≤ xs.length) && decide (xs.length ≤ 7)) with
      | false => rfl
      | true => rw [hz] at hk; cases hk
    · intro hk
      rw [e1] at hk
      have hz : (decide (1 ≤ xs.length) && decide (xs.length ≤ 7)) = true := by
        cases hz : (decide (1 ≤ xs.length) && decide (xs.length ≤ 7)) with
        | true => rfl
        | false => rw [hz] at hk; cases hk
      have hlen : xs.length ≤ 7 := by simpa using (Bool.and_eq_true_iff.mp hz).2
      refine ps_fin (Pv.to (pv_and (pv_all (pl_lc (f := fun x => .bl (frmB 0 30 x)) (pi_tup (pv_var rfl)) (fun x hx => ⟨_, fun _ => rfl, pv_call (pa_c (pv_var rfl) pa_n) (v_is_house (n := n) (Smas.mem hm.1 hx).lk)⟩) (by unfold big; omega)) (mapO_bl _ _))
        fun ha => pv_bin (pv_lenSc (f := kyD) (pi_tup (pv_var rfl)) (fun x hx => ?_) (by omega)) (pv_b (pa_c (pv_var rfl) pa_n) fun _ => len_t) fun _ => eq_i) ?_)
      · rcases frmB_int (lo := 0) (hi := 30) x with z | ⟨i, rfl⟩
        · rw [List.all_map] at ha
          have := List.all_eq_true.mp ha x hx
          rw [show (id ∘ frmB 0 30) x = frmB 0 30 x from rfl, z] at this
          cases this
        · exact ⟨_, _, fun _ => rfl, pv_var rfl, rfl⟩
      · show _ = D.bl (_ && (_ && decide (setL xs = xs.length)))
        rw [hz, Bool.true_and, List.all_map, show (id ∘ frmB 0 30) = frmB 0 30 from rfl]
        congr 2
        refine decide_eq_decide.mpr ?_
        unfold setL
        constructor
        · intro h; exact Int.ofNat.inj h
        · intro h; rw [h]; rfl
  · refine ps_ifr (k := true) (pt_or_t (pt_ntup w (pv_var rfl) h fun q ys e => hd ⟨q, ys, e⟩)) (fun _ => Pv.to pv_c ?_) (fun h => by cases h)
    have : memB d = false := by
      cases d <;> try rfl
      exact absurd ⟨_, _, rfl⟩ hd
    rw [this]
/-! states -/
def staB : D → Bool
  | .tup _ [a, b, e] => bookB a && (anssB b && memB e)
  | _ => false
theorem v_is_state (h : Lk S d) (hs : ∀ q xs, d = .tup q xs → Sma d) : Fv (cal (n + 5)) 26 [d] S (.bl (staB d)) := by
  refine fv_wf fun w => fv_body (c := cal (n + 4)) (fun _ _ => rfl) ?_
  by_cases hd : ∃ q xs, d = .tup q xs
  · obtain ⟨q, xs, rfl⟩ := hd
    have hm := hs q xs rfl
    simp only [Sma] at hm
    by_cases hl : xs.length = 3
    · match xs, hl, hm with
      | [a, b, e], _, hm =>
        simp only [Smas] at hm
        have c1 := v_is_book (S := S) (n := n + 2) (d := a) hm.1.1.lk fun _ _ _ => hm.1.1
        have c2 := v_are_answers (S := S) (n := n) (d := b) hm.1.2.1.lk fun _ _ _ => hm.1.2.1
        have c3 := v_is_members (S := S) (n := n) (d := e) hm.1.2.2.1.lk fun _ _ _ => hm.1.2.2.1
        apply ps_ifr
        · nofun
        · intro hk; cases hk
        · intro _
          apply ps_fin
          apply Pv.to
          · nofun
          · rfl
    · have e : decide ((xs.length : Int) = 3) = false := decide_eq_false (by omega)
      have hf : staB (.tup q xs) = false := by
        match xs, hl with
        | [], _ => rfl
        | [_], _ => rfl
        | [_, _], _ => rfl
        | [_, _, _], h => exact absurd rfl h
        | _ :: _ :: _ :: _ :: _, _ => rfl
      apply ps_ifr
      · nofun
      · exact fun _ => pv_c.to (by rw [hf])
      · intro hk
        rw [e] at hk
        cases hk
  · refine ps_ifr (k := true) (pt_or_t (pt_ntup w (pv_var rfl) h fun q ys e => hd ⟨q, ys, e⟩)) (fun _ => Pv.to pv_c ?_) (fun h => by cases h)
    have : staB d = false := by
      cases d <;> try rfl
      exact absurd ⟨_, _, rfl⟩ hd
    rw [this]
end
end Ev
set_option Elab.async false
set_option linter.all false
set_option maxRecDepth 100000
set_option maxHeartbeats 0
namespace Ev
open PySem
/-! ### data: its tree, its size shown -/
mutual
def dtD : D → Dt
  | .bl b => .bl b
  | .int i => .int i
  | .str x => .str x
  | .tup _ xs => .tup (dtDs xs)
  | _ => .non
def dtDs : List D → List Dt
  | [] => []
  | x :: xs => dtD x :: dtDs xs
end
mutual
/-- tree data with signs below 128, numbers of at most 31 figures -/
def Gd : D → Prop
  | .non => True
  | .bl _ => True
  | .int i => i.natAbs < 10 ^ 31
  | .str l => ∀ a ∈ l, a < 128
  | .tup _ xs => Gds xs
  | _ => False
def Gds : List D → Prop
  | [] => True
  | x :: xs => Gd x ∧ Gds xs
end
mutual
def depD : D → Nat
  | .tup _ xs => depDs xs + 1
  | _ => 0
def depDs : List D → Nat
  | [] => 0
  | x :: xs => max (depD x) (depDs xs)
end
mutual
def rsz : D → Nat
  | .str l => 10 * l.length + 2
  | .tup _ xs => rszs xs + 3
  | _ => 32
def rszs : List D → Nat
  | [] => 0
  | x :: xs => rsz x + 2 + rszs xs
end
theorem Gds.iff : ∀ {xs : List D}, Gds xs ↔ ∀ x ∈ xs, Gd x
  | [] => by simp [Gds]
  | x :: xs => by simp [Gds, Gds.iff (xs := xs)]
theorem dtDs_map : ∀ xs : List D, dtDs xs = xs.map dtD
  | [] => rfl
  | x :: xs => by simp [dtDs, dtDs_map xs]
theorem depDs_le : ∀ {xs : List D} {n : Nat}, (∀ x ∈ xs, depD x ≤ n) → depDs xs ≤ n
  | [], n, _ => Nat.zero_le _
  | x :: xs, n, h => by
    simp only [depDs]
    exact Nat.max_le.mpr ⟨h x (by simp), depDs_le fun y hy => h y (List.mem_cons_of_mem _ hy)⟩
theorem rszs_le : ∀ {xs : List D} {n : Nat}, (∀ x ∈ xs, rsz x ≤ n) → rszs xs ≤ (n + 2) * xs.length
  | [], n, _ => Nat.zero_le _
  | x :: xs, n, h => by
    have h1 := h x (by simp)
    have h2 := rszs_le (xs := xs) (n := n) fun y hy => h y (List.mem_cons_of_mem _ hy)
    simp only [rszs, List.length_cons]
    rw [Nat.mul_add]
    omega
theorem mapO_some {α β : Type} {f : α → Option β} {g : α → β} : ∀ {xs : List α}, (∀ x ∈ xs, f x = some (g x)) → mapO f xs = some (xs.map g)
  | [], _ => rfl
  | x :: xs, h => by
    unfold mapO
    rw [h x (by simp), mapO_some fun y hy => h y (List.mem_cons_of_mem _ hy)]
    rfl
theorem toDt_gd {S : Sto} : ∀ (n : Nat) (d : D), Gd d → depD d ≤ n → toDt S n d = some (dtD d)
  | n, .non, _, _ => by cases n <;> rfl
  | n, .bl b, _, _ => by cases n <;> rfl
  | n, .int i, _, _ => by cases n <;> rfl
  | n, .str l, h, _ => by
    have e : (l.all fun a => Nat.blt a 1114112) = true := List.all_eq_true.mpr fun a ha => by
      have := h a ha
      exact Nat.blt_eq.mpr (by omega)
    cases n <;> (unfold toDt; rw [e]; rfl)
  | 0, .tup w xs, h, hd => by simp [depD] at hd
  | n + 1, .tup w xs, h, hd => by
    simp only [depD] at hd
    have hm : ∀ ys : List D, Gds ys → depDs ys ≤ n → ∀ y ∈ ys, toDt S n y = some (dtD y) := fun ys => by
      induction ys with
      | nil => exact fun _ _ y hy => absurd hy List.not_mem_nil
      | cons z zs ih =>
        intro hg hd y hy
        simp only [Gds, depDs] at hg hd
        rcases List.mem_cons.mp hy with rfl | hy
        · exact toDt_gd n y hg.1 (by omega)
        · exact ih hg.2 (by omega) y hy
    unfold toDt
    rw [mapO_some (hm xs h (by omega))]
    simp [dtD, dtDs_map]
  | n, .obj p, h, _ => h.elim
  | n, .fnr j, h, _ => h.elim
  | n, .clr j, h, _ => h.elim
mutual
theorem showable_gd : ∀ d : D, Gd d → (dtD d).pd.showable = true
  | .non, _ => rfl
  | .bl b, _ => rfl
  | .int i, h => by
    show decide (i.natAbs.log2 < 1920) = true
    have h : i.natAbs < 10 ^ 31 := h
    refine decide_eq_true ?_
    by_cases z : i.natAbs = 0
    · rw [z]; decide
    · have e : i.natAbs.log2 < 104 := (Nat.log2_lt z).mpr (Nat.lt_trans h (by decide))
      omega
  | .str l, _ => rfl
  | .tup w xs, h => by
    show PyData.showable (Dt.pd (.tup (dtDs xs))) = true
    simp only [Dt.pd, PyData.showable]
    exact showables_gd xs h
theorem showables_gd : ∀ xs : List D, Gds xs → PyData.showableAll (Dt.pds (dtDs xs)) = true
  | [], _ => rfl
  | x :: xs, h => by
    simp only [Gds] at h
    simp only [dtDs, Dt.pds, PyData.showableAll, showable_gd x h.1, showables_gd xs h.2, Bool.and_self]
end
mutual
theorem shown_gd : ∀ d : D, Gd d → (dtD d).pd.shown.length ≤ rsz d
  | .non, _ => (by decide +kernel : (PyData.none).shown.length ≤ 32)
  | .bl true, _ => (by decide +kernel : (PyData.bool true).shown.length ≤ 32)
  | .bl false, _ => (by decide +kernel : (PyData.bool false).shown.length ≤ 32)
  | .int i, h => by
    have h : i.natAbs < 10 ^ 31 := h
    show (Str.ofString (toString i)).length ≤ 32
    have e := int_text_length_le10 (k := 31) (by decide) h
    rw [PySem.ofString_length]
    exact e
  | .str l, h => by
    show (PyData.str (toS l)).shown.length ≤ 10 * l.length + 2
    rw [PyData.shown_str]
    have := StrLaws.reprText_len (toS l) fun c hc => by
      have : c ∈ l := by simpa [toS] using hc
      have := h c this
      have e : (128 : Nat) < 16 ^ 8 := by decide
      omega
    rw [toS_len] at this
    exact this
  | .tup w xs, h => by
    show (PyData.tuple (Dt.pds (dtDs xs))).shown.length ≤ rszs xs + 3
    simp only [PyData.shown]
    have h1 := tupleText_len_le (PyData.shownAll (Dt.pds (dtDs xs)))
    have h2 := showns_gd xs h
    omega
theorem showns_gd : ∀ xs : List D, Gds xs → ((PyData.shownAll (Dt.pds (dtDs xs))).map (·.length)).sum + 2 * (PyData.shownAll (Dt.pds (dtDs xs))).length ≤ rszs xs
  | [], _ => Nat.le_refl _
  | x :: xs, h => by
    simp only [Gds] at h
    have h1 := shown_gd x h.1
    have h2 := showns_gd xs h.2
    simp only [dtDs, Dt.pds, PyData.shownAll, List.map_cons, List.sum_cons, List.length_cons, rszs]
    omega
end
/-- what repr tells -/
def repD (d : D) : List Nat := (dtD d).pd.shown.cps.toList
theorem repr_gd {S : Sto} {d : D} (h : Gd d) (hd : depD d ≤ 60) (hs : rsz d ≤ big) : bRepr [d] S = .ok (.str (repD d)) S := by
  unfold bRepr
  dsimp only
  rw [toDt_gd 60 d h hd]
  dsimp only
  rw [showable_gd d h, Nat.ble_eq_true_of_le (Nat.le_trans (shown_gd d h) hs)]
  rfl
/-- of a list of data -/
def repL (xs : List D) : List Nat := (Dt.lst (xs.map dtD)).pd.shown.cps.toList
theorem repr_l {S : Sto} {p : Po} {k : Nat} {xs : List D} (hp : S.get p = some (.lst k xs)) (h : ∀ x ∈ xs, Gd x) (hd : ∀ x ∈ xs, depD x ≤ 59) (hs : rszs xs + 3 ≤ big) : bRepr [.obj p] S = .ok (.str (repL xs)) S := by
  unfold bRepr
  dsimp only
  have e : toDt S 60 (.obj p) = some (.lst (xs.map dtD)) := by
    unfold toDt
    dsimp only
    rw [hp]
    dsimp only
    rw [mapO_some fun x hx => toDt_gd 59 x (h x hx) (hd x hx)]
    rfl
  rw [e]
  dsimp only
  have h1 : (Dt.lst (xs.map dtD)).pd.showable = true := by
    simp only [Dt.pd, PyData.showable]
    rw [← dtDs_map]
    exact showables_gd xs (Gds.iff.mpr h)
  have h2 : (Dt.lst (xs.map dtD)).pd.shown.length ≤ big := by
    simp only [Dt.pd, PyData.shown]
    have h1 := listText_len_le (PyData.shownAll (Dt.pds (xs.map dtD)))
    have h2 := showns_gd xs (Gds.iff.mpr h)
    rw [dtDs_map] at h2
    omega
  rw [h1, Nat.ble_eq_true_of_le h2]
  rfl
/-! ### == of data -/
theorem gd_of_flat {d : D} (h : Gd d) : ∀ p, d ≠ .obj p := fun p e => by subst e; exact h.elim
mutual
theorem eqv_refl : ∀ d : Dt, d.eqv d = true
  | .non => rfl
  | .bl b => by cases b <;> rfl
  | .int i => by show ieq i i = true; rw [ieq_dec]; simp
  | .str x => by show leq x x = true; rw [leq_dec]; simp
  | .lst xs => eqvs_refl xs
  | .tup xs => eqvs_refl xs
theorem eqvs_refl : ∀ xs : List Dt, Dt.eqvs xs xs = true
  | [] => rfl
  | x :: xs => by unfold Dt.eqvs; rw [eqv_refl x]; exact eqvs_refl xs
end
theorem deq_gd {S : Sto} {x y : D} (hx : Gd x) (hy : Gd y) (dx : depD x ≤ 60) (dy : depD y ≤ 60) : deq S x y = some ((dtD x).eqv (dtD y)) := by
  have h1 := toDt_gd (S := S) 60 x hx dx
  have h2 := toDt_gd (S := S) 60 y hy dy
  unfold deq
  split <;> first
    | rfl
    | (rw [h1, h2])
theorem eq_gd {S : Sto} {x y : D} (hx : Gd x) (hy : Gd y) (dx : depD x ≤ 60) (dy : depD y ≤ 60) : dEq x y S = .ok (.bl ((dtD x).eqv (dtD y))) S := by
  unfold dEq; rw [deq_gd hx hy dx dy]
theorem ne_gd {S : Sto} {x y : D} (hx : Gd x) (hy : Gd y) (dx : depD x ≤ 60) (dy : depD y ≤ 60) : dNe x y S = .ok (.bl (!(dtD x).eqv (dtD y))) S := by
  unfold dNe; rw [deq_gd hx hy dx dy]
/-- lists of data -/
theorem deq_ll {S : Sto} {p q : Po} {k m : Nat} {xs ys : List D} (hp : S.get p = some (.lst k xs)) (hq : S.get q = some (.lst m ys)) (hx : ∀ x ∈ xs, Gd x) (hy : ∀ x ∈ ys, Gd x) (dx : ∀ x ∈ xs, depD x ≤ 59) (dy : ∀ x ∈ ys, depD x ≤ 59) :
    deq S (.obj p) (.obj q) = some (Dt.eqvs (xs.map dtD) (ys.map dtD)) := by
  have h1 : toDt S 60 (.obj p) = some (.lst (xs.map dtD)) := by
    unfold toDt
    dsimp only
    rw [hp]
    dsimp only
    rw [mapO_some fun x h => toDt_gd 59 x (hx x h) (dx x h)]
    rfl
  have h2 : toDt S 60 (.obj q) = some (.lst (ys.map dtD)) := by
    unfold toDt
    dsimp only
    rw [hq]
    dsimp only
    rw [mapO_some fun x h => toDt_gd 59 x (hy x h) (dy x h)]
    rfl
  unfold deq
  dsimp only
  rw [h1, h2]
  rfl
end Ev
set_option Elab.async false
set_option linter.all false
set_option maxRecDepth 100000
set_option maxHeartbeats 0
namespace Ev
local macro_rules
  | `(tactic| nofun) => `(tactic| first
    | exact pv_var rfl
    | exact pv_c
    | exact pa_n
    | exact pt_yes
    | exact po_no
    | assumption
    | (with_reducible apply po_part
       nofun)
    | (with_reducible apply pa_c
       · nofun
       · nofun)
    | (with_reducible apply pt_of
       nofun)
    | (with_reducible apply pt_not
       nofun)
    | (with_reducible apply pt_or_t
       with_reducible apply Pt.to
       · nofun
       · first | rfl | (simp [*]; done))
    | (with_reducible apply pt_or
       · nofun
       · (intro _
          nofun))
    | (with_reducible apply pt_and_f
       with_reducible apply Pt.to
       · nofun
       · first | rfl | (simp [*]; done))
    | (with_reducible apply pt_and
       · nofun
       · (intro _
          nofun))
    | (with_reducible apply pv_and_f
       with_reducible apply Pv.to
       · nofun
       · first | rfl | (simp [*]; done))
    | (with_reducible apply pv_and
       · nofun
       · (intro _
          nofun))
    | (with_reducible apply pv_or_t
       with_reducible apply Pv.to
       · nofun
       · first | rfl | (simp [*]; done))
    | (with_reducible apply pv_or
       · nofun
       · (intro _
          nofun))
    | (with_reducible apply pv_not
       nofun)
    | (with_reducible apply pv_neg
       nofun)
    | (with_reducible apply pv_is
       · nofun
       · first | exact tys_of rfl | assumption)
    | (with_reducible apply pv_tup
       · nofun
       · exact of_decide_eq_true rfl)
    | (with_reducible apply pl_lst
       · nofun
       · exact of_decide_eq_true rfl)
    | (with_reducible apply pv_call
       · nofun
       · assumption)
    | (with_reducible apply pl_call
       · nofun
       · assumption)
    | (with_reducible apply pv_callK
       · nofun
       · nofun
       · assumption)
    | (with_reducible apply pv_b
       · nofun
       · first | exact fun _ => len_t | exact fun _ => len_s (by assumption) | exact fun _ => rfl)
    | (with_reducible apply pv_bS
       · nofun
       · exact fun _ l => len_l (l.get (by assumption)))
    | (with_reducible apply pv_bin
       · nofun
       · nofun
       · first | exact fun _ => le_i | exact fun _ => lt_i | exact fun _ => gt_i | exact fun _ => ge_i | exact fun _ => eq_i | exact fun _ => ne_i | exact fun _ => eq_s | exact fun _ => ne_s | exact fun _ => in_two | exact fun _ => ix_t rfl | exact fun _ => rfl)
    | (with_reducible apply pv_binS
       · nofun
       · nofun
       · exact fun _ l => ix_l (l.get (by assumption)) rfl)
    | (with_reducible apply pv_chain
       · nofun
       · nofun
       · exact fun _ => le_i
       · (intro _
          nofun)
       · exact fun _ _ => le_i)
    | (with_reducible apply pv_bm
       · nofun
       · nofun
       · exact fun _ => rfl
       · exact fun _ => rfl)
    | (with_reducible apply pv_tupl
       nofun))

/-! ### numbers as texts -/
theorem shortI_of {i : Int} (h : i.natAbs < 10 ^ 31) : shortI i = true := by
  unfold shortI
  refine Nat.blt_eq.mpr (Nat.lt_trans h ?_)
  have e1 : (10 : Nat) ^ 31 < 2 ^ 104 := by decide
  exact Nat.lt_of_lt_of_le e1 (Nat.pow_le_pow_right (by decide) (by decide))
theorem intL_nat (n : Nat) : intL (n : Int) = TL.numL n := rfl
theorem intL_neg {n : Nat} (h : 0 < n) : intL (-(n : Int)) = 45 :: TL.numL n := by
  match n, h with
  | n + 1, _ => rfl
theorem intL_len {i : Int} {k : Nat} (hk : 0 < k) (h : i.natAbs < 10 ^ k) : (intL i).length ≤ k + 1 := by
  cases i with
  | ofNat n => exact Nat.le_succ_of_le (TL.numL_len hk h)
  | negSucc n => exact Nat.succ_le_succ (TL.numL_len hk h)
theorem str_i {i : Int} {S : Sto} (h : shortI i = true) : bStr [.int i] S = .ok (.str (intL i)) S := by unfold bStr; dsimp only; rw [h]
def strOf : D → List Nat
  | .int i => intL i
  | .str l => l
  | _ => []
def Wd (x : D) : Prop := (∃ l, x = .str l) ∨ ∃ i, x = .int i ∧ shortI i = true
theorem str_w {x : D} {S : Sto} (h : Wd x) : bStr [x] S = .ok (.str (strOf x)) S := by
  rcases h with ⟨l, rfl⟩ | ⟨i, rfl, h⟩
  · rfl
  · exact str_i h
theorem mapO_strD {α : Type} (f : α → List Nat) : ∀ xs : List α, mapO strD (xs.map fun x => D.str (f x)) = some (xs.map f)
  | [] => rfl
  | x :: xs => by
    rw [List.map_cons]
    unfold mapO
    rw [mapO_strD f xs]
    rfl
/-! ### lists in slots -/
section
variable {c : Cal} {env : Slots} {S : Sto}
theorem pv_joino {o e : Ev} {x : List Nat} {p : Po} {k : Nat} {xs : List D} {ls : List (List Nat)} (ho : Pv c env S o (.str x)) (he : Pv c env S e (.obj p)) (hp : S.get p = some (.lst k xs)) (hs : mapO strD xs = some ls) (hb : (ls.map (·.length)).sum + ls.length * x.length ≤ big) :
    Pv c env S (eBM isStrD mJoin o (aCons e aNil)) (.str (TL.joinL x ls)) := fun S1 l => by
  obtain ⟨S2, e2, l2⟩ := ho S1 l
  obtain ⟨S3, e3, l3⟩ := he S2 (l.trans l2)
  refine ⟨S3, ?_, l2.trans l3⟩
  unfold eBM aCons
  rw [e2]
  show (Rs.bind ((e c env S2).bind _) _) = _
  rw [e3]
  show mJoin (.str x) [.obj p] S3 = _
  unfold mJoin
  dsimp only
  rw [seqD_lst ((l.trans (l2.trans l3)).get hp)]
  dsimp only
  rw [hs]
  dsimp only
  rw [Nat.ble_eq_true_of_le hb]
theorem pl_cat {a b : Ev} {xs ys : List D} (ha : Pl c env S a xs) (hb : Pl c env S b ys) (hl : xs.length + ys.length ≤ big) : Pl c env S (eBin dAdd a b) (xs ++ ys) := fun S1 l => by
  obtain ⟨p, S2, e2, l2, g2, n2⟩ := ha S1 l
  obtain ⟨q, S3, e3, l3, g3, n3⟩ := hb S2 (l.trans l2)
  refine ⟨S3.nx, S3.add (.lst 0 (xs ++ ys)), ?_, l2.trans (l3.trans (le_add l3.wf)), add_get, Nat.le_trans l2.nx l3.nx⟩
  unfold eBin
  rw [e2]
  show Rs.bind (b c env S2) _ = _
  rw [e3]
  show dAdd (.obj p) (.obj q) S3 = _
  unfold dAdd
  dsimp only
  rw [l3.get g2, g3]
  dsimp only
  rw [Nat.ble_eq_true_of_le hl]
  exact mkO_eq l3.wf
theorem run_append {i : Nat} {e : Ev} {p : Po} {xs : List D} {d : D} {S1 : Sto} (hv : env[i]? = some (some (.obj p))) (hp : S.get p = some (.lst 0 xs)) (hl : xs.length < big) (he : e c env S = .ok d S1) (l : Le S S1) :
    sX (eBM isLstD mAppend (eVar i) (aCons e aNil)) c env S = .nx env (S1.put p (.lst 0 (xs ++ [d]))) := by
  unfold sX eBM eVar
  rw [hv]
  show Rs.bindS (Rs.bind (Rs.ok (D.obj p) S) _) env _ = _
  have h1 : isLstD (.obj p) S = true := by unfold isLstD lstD; dsimp only; rw [seqD_lst hp]; rfl
  show Rs.bindS (match isLstD (.obj p) S with | true => (aCons e aNil c env S).bind fun ds S2 => mAppend (.obj p) ds S2 | false => .no) env _ = _
  rw [h1]
  dsimp only
  unfold aCons
  rw [he]
  show Rs.bindS (mAppend (.obj p) [d] S1) env _ = _
  unfold mAppend
  dsimp only
  rw [l.get hp]
  show Rs.bindS (match Nat.blt xs.length big with | true => Rs.ok D.non (S1.put p (.lst 0 (xs ++ [d]))) | false => .no) env _ = _
  rw [Nat.blt_eq.mpr hl]
  rfl
end
section
variable {S : Sto} {n : Nat} {d : D} {t : Tyn}
theorem v_show_deed {q : Bool} {xs : List D} (h : ∀ x ∈ xs, Wd x) (hl : xs.length ≤ 100) (hs : ((xs.map strOf).map (·.length)).sum + 100 ≤ big) : Fv (cal (n + 1)) 155 [.tup q xs] S (.str (TL.joinL [32] (xs.map strOf))) := by
  refine fv_body (c := cal n) (fun _ _ => rfl) (ps_fin (pv_join (x := [32]) pv_c (pl_lc (f := fun x => .str (strOf x)) (pi_tup (pv_var rfl)) (fun x hx => ⟨_, fun _ => rfl, pv_b (pa_c (pv_var rfl) pa_n) fun _ => str_w (h x hx)⟩) (by unfold big; omega)) (mapO_strD _ _) ?_))
  rw [List.length_map]
  show _ + xs.length * 1 ≤ big
  omega
/-! asks as texts -/
theorem deed_form {d : D} (h : deedB d = true) : (∃ q w nm i, d = .tup q [.str w, .str nm, .int i] ∧ (w = sPut ∨ w = sAdd) ∧ nameB (.str nm) = true ∧ -1000000000000 ≤ i ∧ i ≤ 1000000000000) ∨ (∃ q nm, d = .tup q [.str sDrop, .str nm] ∧ nameB (.str nm) = true) ∨
    ∃ q i j, d = .tup q [.str sSwap, .int i, .int j] ∧ 0 ≤ i ∧ i ≤ 30 ∧ 0 ≤ j ∧ j ≤ 30 ∧ i ≠ j := by
  unfold deedB at h
  split at h
  · rename_i q w a
    simp only [Bool.and_eq_true, decide_eq_true_eq] at h
    obtain ⟨l, rfl⟩ := nameB_str h.2
    exact .inr (.inl ⟨q, l, by rw [h.1], h.2⟩)
  · rename_i q w a b
    simp only [Bool.or_eq_true, Bool.and_eq_true, decide_eq_true_eq] at h
    rcases h with ⟨h1, h2, h3⟩ | ⟨h1, h2, h3, h4⟩
    · obtain ⟨l, rfl⟩ := nameB_str h2
      rcases frmB_int (lo := -1000000000000) (hi := 1000000000000) b with z | ⟨i, rfl⟩
      · rw [z] at h3; cases h3
      simp only [frmB, Bool.and_eq_true, decide_eq_true_eq] at h3
      exact .inl ⟨q, w, l, i, rfl, h1, h2, h3.1, h3.2⟩
    · rcases frmB_int (lo := 0) (hi := 30) a with z | ⟨i, rfl⟩
      · rw [z] at h2; cases h2
      rcases frmB_int (lo := 0) (hi := 30) b with z | ⟨j, rfl⟩
      · rw [z] at h3; cases h3
      simp only [frmB, Bool.and_eq_true, decide_eq_true_eq] at h2 h3
      refine .inr (.inr ⟨q, i, j, by rw [h1], h2.1, h2.2, h3.1, h3.2, fun e => ?_⟩)
      subst e
      have : feq (.int i) (.int i) = true := by show ieq i i = true; rw [ieq_dec]; simp
      rw [this] at h4
      cases h4
  · cases h
theorem name_len {nm : List Nat} (h : nameB (.str nm) = true) : 1 ≤ nm.length ∧ nm.length ≤ 8 ∧ ∀ a ∈ nm, 97 ≤ a ∧ a ≤ 122 := by
  simp only [nameB, Bool.and_eq_true, decide_eq_true_eq, List.all_eq_true] at h
  exact ⟨h.1.1, h.1.2, fun a ha => by have := h.2 a ha; simpa using this⟩
/-- the words of a deed: short ones -/
theorem deed_words {d : D} (h : deedB d = true) : ∃ q xs, d = .tup q xs ∧ (∀ x ∈ xs, Wd x) ∧ xs.length ≤ 3 ∧ (TL.joinL [32] (xs.map strOf)).length ≤ 40 ∧ ((xs.map strOf).map (·.length)).sum ≤ 40 := by
  have hi : ∀ i : Int, -1000000000000 ≤ i → i ≤ 1000000000000 → shortI i = true ∧ (intL i).length ≤ 14 := fun i h1 h2 => by
    have e : (10 : Nat) ^ 13 = 10000000000000 := by decide
    have e2 : (10 : Nat) ^ 31 = 10000000000000000000000000000000 := by decide
    exact ⟨shortI_of (by rw [e2]; omega), intL_len (k := 13) (by decide) (by rw [e]; omega)⟩
  rcases deed_form h with ⟨q, w, nm, i, rfl, hw, hn, h1, h2⟩ | ⟨q, nm, rfl, hn⟩ | ⟨q, i, j, rfl, h1, h2, h3, h4, _⟩
  · obtain ⟨_, hn2, _⟩ := name_len hn
    obtain ⟨s1, s2⟩ := hi i h1 h2
    have hw2 : w.length = 3 := by rcases hw with rfl | rfl <;> rfl
    refine ⟨q, _, rfl, fun x hx => ?_, by simp, ?_, ?_⟩
    · simp only [List.mem_cons, List.not_mem_nil, or_false] at hx
      rcases hx with rfl | rfl | rfl
      · exact .inl ⟨_, rfl⟩
      · exact .inl ⟨_, rfl⟩
      · exact .inr ⟨_, rfl, s1⟩
    · simp only [List.map_cons, List.map_nil, strOf, TL.joinL, List.length_append, List.length_cons, List.length_nil]
      omega
    · simp only [List.map_cons, List.map_nil, strOf, List.sum_cons, List.sum_nil]
      omega
  · obtain ⟨_, hn2, _⟩ := name_len hn
    refine ⟨q, _, rfl, fun x hx => ?_, by simp, ?_, ?_⟩
    · simp only [List.mem_cons, List.not_mem_nil, or_false] at hx
      rcases hx with rfl | rfl
      · exact .inl ⟨_, rfl⟩
      · exact .inl ⟨_, rfl⟩
    · simp only [List.map_cons, List.map_nil, strOf, TL.joinL, List.length_append, List.length_cons, List.length_nil, sDrop]
      omega
    · simp only [List.map_cons, List.map_nil, strOf, List.sum_cons, List.sum_nil, sDrop, List.length_cons, List.length_nil]
      omega
  · obtain ⟨s1, s2⟩ := hi i (by omega) (by omega)
    obtain ⟨s3, s4⟩ := hi j (by omega) (by omega)
    refine ⟨q, _, rfl, fun x hx => ?_, by simp, ?_, ?_⟩
    · simp only [List.mem_cons, List.not_mem_nil, or_false] at hx
      rcases hx with rfl | rfl | rfl
      · exact .inl ⟨_, rfl⟩
      · exact .inr ⟨_, rfl, s1⟩
      · exact .inr ⟨_, rfl, s3⟩
    · simp only [List.map_cons, List.map_nil, strOf, TL.joinL, List.length_append, List.length_cons, List.length_nil, sSwap]
      omega
    · simp only [List.map_cons, List.map_nil, strOf, List.sum_cons, List.sum_nil, sSwap, List.length_cons, List.length_nil]
      omega
theorem ask_form {d : D} (h : askB d = true) : ∃ q a s e, d = .tup q [.int a, .int s, e] ∧ 0 ≤ a ∧ a ≤ 9 ∧ 1 ≤ s ∧ s ≤ 1000000000 ∧ deedB e = true := by
  unfold askB at h
  split at h
  · rename_i q a s e
    simp only [Bool.and_eq_true] at h
    rcases frmB_int (lo := 0) (hi := 9) a with z | ⟨i, rfl⟩
    · rw [z] at h; cases h.1
    rcases frmB_int (lo := 1) (hi := 1000000000) s with z | ⟨j, rfl⟩
    · rw [z] at h; cases h.2.1
    have h1 := h.1
    have h2 := h.2.1
    simp only [frmB, Bool.and_eq_true, decide_eq_true_eq] at h1 h2
    exact ⟨q, i, j, e, rfl, h1.1, h1.2, h2.1, h2.2, h.2.2⟩
  · cases h
def deedT : D → List Nat
  | .tup _ ws => TL.joinL [32] (ws.map strOf)
  | _ => []
def askT : D → List Nat
  | .tup _ [.int a, .int s, e] => intL a ++ ([46] ++ (intL s ++ ([32] ++ deedT e)))
  | _ => [45]
theorem deed_sma {d : D} (h : deedB d = true) : Sma d := by
  rcases deed_form h with ⟨q, w, nm, i, rfl, hw, hn, h1, h2⟩ | ⟨q, nm, rfl, hn⟩ | ⟨q, i, j, rfl, h1, h2, h3, h4, _⟩
  · obtain ⟨_, hn2, _⟩ := name_len hn
    have hw2 : w.length = 3 := by rcases hw with rfl | rfl <;> rfl
    simp [Sma, Smas, hw2, big]
    omega
  · obtain ⟨_, hn2, _⟩ := name_len hn
    simp [Sma, Smas, sDrop, big]
    omega
  · simp [Sma, Smas, sSwap, big]
theorem ask_sma {d : D} (h : askB d = true) : Sma d := by
  obtain ⟨q, a, s, e, rfl, _, _, _, _, h5⟩ := ask_form h
  simp [Sma, Smas, deed_sma h5]
theorem small_len {i : Int} (h0 : 0 ≤ i) (h1 : i ≤ 1000000000) : shortI i = true ∧ (intL i).length ≤ 11 := by
  have e : (10 : Nat) ^ 10 = 10000000000 := by decide
  have e2 : (10 : Nat) ^ 31 = 10000000000000000000000000000000 := by decide
  exact ⟨shortI_of (by rw [e2]; omega), intL_len (k := 10) (by decide) (by rw [e]; omega)⟩
theorem askT_len {d : D} (h : askB d = true) : (askT d).length ≤ 70 := by
  obtain ⟨q, a, s, e, rfl, h1, h2, h3, h4, h5⟩ := ask_form h
  obtain ⟨q2, xs, rfl, _, _, h6, _⟩ := deed_words h5
  have := (small_len h1 (by omega)).2
  have := (small_len (i := s) (by omega) h4).2
  simp only [askT, deedT, List.length_append, List.length_cons, List.length_nil]
  omega
theorem pj2 {c : Cal} {env : Slots} {S : Sto} {a b d : Ev} {x z : List Nat} {y w v : List Nat} {e f : Ev} (h1 : Pv c env S a (.str x)) (h2 : Pv c env S b (.str y)) (h3 : Pv c env S d (.str z)) (h4 : Pv c env S e (.str w)) (h5 : Pv c env S f (.str v)) : Pj c env S [a, b, d, e, f] [x, y, z, w, v] := ⟨h1, h2, h3, h4, h5, trivial⟩
theorem v_show_ask (h : askB d = true) : Fv (cal (n + 6)) 156 [d] S (.str (askT d)) := by
  refine fv_wf fun w => fv_body (c := cal (n + 5)) (fun _ _ => rfl) ?_
  have c1 := v_is_ask (S := S) (n := n) (d := d) (ask_sma h).lk fun _ _ _ => ask_sma h
  obtain ⟨q, a, s, e, rfl, h1, h2, h3, h4, h5⟩ := ask_form h
  have l2 := askT_len h
  apply ps_ifr
  · nofun
  · intro hk; cases hk
  · intro _
    apply ps_ifn
    · nofun
    · intro hk
      rw [h] at hk
      cases hk
    · intro _
      obtain ⟨q2, xs, rfl, hw, hl, h6, h7⟩ := deed_words h5
      obtain ⟨s1, s2⟩ := small_len (i := a) h1 (by omega)
      obtain ⟨s3, s4⟩ := small_len (i := s) (by omega) h4
      refine ps_seq (ps_set (pv_var rfl) fun _ => rfl) (ps_fin (Pv.to (pv_joined (pj2 (pv_fmtI (pv_var rfl) s1) pv_c (pv_fmtI (pv_var rfl) s3) pv_c
        (pv_fmtS (pv_call (pa_c (pv_var rfl) pa_n) (v_show_deed (n := n + 4) hw (by omega) (by unfold big; omega))) (by unfold big; omega))) ?_) ?_))
      · simp only [List.flatten_cons, List.flatten_nil, List.length_append, List.length_cons, List.length_nil]
        unfold big
        omega
      · simp [askT, deedT]
theorem v_show_ask_non : Fv (cal (n + 1)) 156 [.non] S (.str (askT .non)) := by
  refine fv_body (c := cal n) (fun _ _ => rfl) ?_
  apply ps_ifr
  · nofun
  · exact fun _ => pv_c
  · intro hk; cases hk
/-- what is no ask is refused -/
theorem e_show_ask (hl : Lk S d) (hs : ∀ q xs, d = .tup q xs → Sma d) (hn : d ≠ .non) (hi : ∀ S1, dIs d .non S1 = .ok (.bl false) S1) (h : askB d = false) : Fe (cal (n + 6)) 156 [d] S 6 [] := by
  have c1 := v_is_ask (S := S) (n := n) (d := d) hl hs
  refine fe_body (c := cal (n + 5)) (env := (List.map some [d] ++ List.replicate 3 none)) (fun _ _ => rfl) ?_
  refine ps_ifn (pt_of (pv_bin (pv_var rfl) pv_c hi)) (fun hk => by cases hk) fun _ => ?_
  refine ps_ifn (k := true) ?_ (fun _ => ps_ex (ps_ex ps_raise)) fun hk => by cases hk
  apply Pt.to
  · nofun
  · rw [h]; rfl
/-! answers as texts -/
def ansT : D → List Nat
  | .bl true => [121, 101, 115]
  | .bl false => [110, 111]
  | .int i => intL i
  | _ => [45]
end
end Ev
set_option Elab.async false
set_option linter.all false
set_option maxRecDepth 100000
set_option maxHeartbeats 0
namespace Ev
local macro_rules
  | `(tactic| nofun) => `(tactic| first
    | exact pv_var rfl
    | exact pv_c
    | exact pa_n
    | exact pt_yes
    | exact po_no
    | assumption
    | (with_reducible apply po_part
       nofun)
    | (with_reducible apply pa_c
       · nofun
       · nofun)
    | (with_reducible apply pt_of
       nofun)
    | (with_reducible apply pt_not
       nofun)
    | (with_reducible apply pt_or_t
       with_reducible apply Pt.to
       · nofun
       · first | rfl | (simp [*]; done))
    | (with_reducible apply pt_or
       · nofun
       · (intro _
          nofun))
    | (with_reducible apply pt_and_f
       with_reducible apply Pt.to
       · nofun
       · first | rfl | (simp [*]; done))
    | (with_reducible apply pt_and
       · nofun
       · (intro _
          nofun))
    | (with_reducible apply pv_and_f
       with_reducible apply Pv.to
       · nofun
       · first | rfl | (simp [*]; done))
    | (with_reducible apply pv_and
       · nofun
       · (intro _
          nofun))
    | (with_reducible apply pv_or_t
       with_reducible apply Pv.to
       · nofun
       · first | rfl | (simp [*]; done))
    | (with_reducible apply pv_or
       · nofun
       · (intro _
          nofun))
    | (with_reducible apply pv_not
       nofun)
    | (with_reducible apply pv_neg
       nofun)
    | (with_reducible apply pv_is
       · nofun
       · first | exact tys_of rfl | assumption)
    | (with_reducible apply pv_tup
       · nofun
       · exact of_decide_eq_true rfl)
    | (with_reducible apply pl_lst
       · nofun
       · exact of_decide_eq_true rfl)
    | (with_reducible apply pv_call
       · nofun
       · assumption)
    | (with_reducible apply pl_call
       · nofun
       · assumption)
    | (with_reducible apply pv_callK
       · nofun
       · nofun
       · assumption)
    | (with_reducible apply pv_b
       · nofun
       · first | exact fun _ => len_t | exact fun _ => len_s (by assumption) | exact fun _ => rfl)
    | (with_reducible apply pv_bS
       · nofun
       · exact fun _ l => len_l (l.get (by assumption)))
    | (with_reducible apply pv_bin
       · nofun
       · nofun
       · first | exact fun _ => le_i | exact fun _ => lt_i | exact fun _ => gt_i | exact fun _ => ge_i | exact fun _ => eq_i | exact fun _ => ne_i | exact fun _ => eq_s | exact fun _ => ne_s | exact fun _ => in_two | exact fun _ => ix_t rfl | exact fun _ => rfl)
    | (with_reducible apply pv_binS
       · nofun
       · nofun
       · exact fun _ l => ix_l (l.get (by assumption)) rfl)
    | (with_reducible apply pv_chain
       · nofun
       · nofun
       · exact fun _ => le_i
       · (intro _
          nofun)
       · exact fun _ _ => le_i)
    | (with_reducible apply pv_bm
       · nofun
       · nofun
       · exact fun _ => rfl
       · exact fun _ => rfl)
    | (with_reducible apply pv_tupl
       nofun))

/-- the parts of an f-string, a list of them -/
theorem pj_c {c : Cal} {env : Slots} {S : Sto} {v : Ev} {vs : List Ev} {x : List Nat} {xs : List (List Nat)} (h : Pv c env S v (.str x)) (r : Pj c env S vs xs) : Pj c env S (v :: vs) (x :: xs) := ⟨h, r⟩
theorem pj_n {c : Cal} {env : Slots} {S : Sto} : Pj c env S [] [] := trivial
section
variable {c : Cal} {env : Slots} {S : Sto} {k : Nat} {fs : List (Nat × D)}
theorem pe_jF : ∀ {vs : List Ev} {xs : List (List Nat)} {acc : List Nat} {v : Ev} {r : List Ev}, Pj c env S vs xs → acc.length + xs.flatten.length ≤ big → Pe c env S v k fs → Pe c env S (jF (vs ++ v :: r) acc) k fs
  | [], [], acc, v, r, _, _, hv => fun S1 l => by
    obtain ⟨S2, e2, l2⟩ := hv S1 l
    exact ⟨S2, by show Rs.bind (v c env S1) _ = _; rw [e2]; rfl, l2⟩
  | [], _ :: _, _, _, _, h, _, _ => h.elim
  | _ :: _, [], _, _, _, h, _, _ => h.elim
  | v0 :: vs, x :: xs, acc, v, r, ⟨hv, hr⟩, hl, he => fun S1 l => by
    rw [List.flatten_cons, List.length_append] at hl
    obtain ⟨S2, e2, l2⟩ := hv S1 l
    obtain ⟨S3, e3, l3⟩ := pe_jF (acc := acc ++ x) (r := r) hr (by rw [List.length_append]; omega) he S2 (l.trans l2)
    refine ⟨S3, ?_, l2.trans l3⟩
    rw [← e3]
    show Rs.bind (v0 c env S1) _ = _
    rw [e2]
    show (match Nat.ble (acc.length + x.length) big with | true => jF (vs ++ v :: r) (acc ++ x) c env S2 | false => .no) = _
    rw [Nat.ble_eq_true_of_le (by omega)]
theorem pe_fmt {e : Ev} (h : Pe c env S e k fs) : Pe c env S (eFmt e) k fs := fun S1 l => by
  obtain ⟨S2, e2, l2⟩ := h S1 l
  exact ⟨S2, by unfold eFmt; rw [e2]; rfl, l2⟩
theorem pe_bm {q : D → Sto → Bool} {f : MOp} {o a : Ev} {x : D} (ho : Pv c env S o x) (hq : ∀ S1, q x S1 = true) (ha : Pe c env S a k fs) : Pe c env S (eBM q f o (aCons a aNil)) k fs := fun S1 l => by
  obtain ⟨S2, e2, l2⟩ := ho S1 l
  obtain ⟨S3, e3, l3⟩ := ha S2 (l.trans l2)
  refine ⟨S3, ?_, l2.trans l3⟩
  unfold eBM
  rw [e2]
  show (match q x S2 with | true => (aCons a aNil c env S2).bind fun ds S2 => f x ds S2 | false => .no) = _
  rw [hq]
  show Rs.bind (Rs.bind (a c env S2) _) _ = _
  rw [e3]; rfl
end
theorem sum_le {α : Type} {f : α → Nat} {m : Nat} : ∀ {xs : List α}, (∀ x ∈ xs, f x ≤ m) → (xs.map f).sum ≤ m * xs.length
  | [], _ => Nat.zero_le _
  | x :: xs, h => by
    have h1 := h x (by simp)
    have h2 := sum_le (xs := xs) fun y hy => h y (List.mem_cons_of_mem _ hy)
    simp only [List.map_cons, List.sum_cons, List.length_cons, Nat.mul_add]
    omega
theorem sums_le {m : Nat} : ∀ {ps : List (List Nat)}, (∀ p ∈ ps, p.length ≤ m) → (ps.map (·.length)).sum ≤ m * ps.length
  | [], _ => Nat.zero_le _
  | x :: xs, h => by
    have h1 := h x (by simp)
    have h2 := sums_le (ps := xs) fun y hy => h y (List.mem_cons_of_mem _ hy)
    simp only [List.map_cons, List.sum_cons, List.length_cons, Nat.mul_add]
    omega
theorem joinL_len (s : List Nat) : ∀ ps : List (List Nat), (TL.joinL s ps).length ≤ (ps.map (·.length)).sum + ps.length * s.length
  | [] => by simp [TL.joinL]
  | [p] => by simp [TL.joinL]
  | p :: q :: r => by
    have := joinL_len s (q :: r)
    simp only [TL.joinL, List.length_append, List.map_cons, List.sum_cons, List.length_cons, Nat.add_mul] at *
    omega
section
variable {S : Sto} {n : Nat} {d : D} {t : Tyn}
def AskOk (k : D) : Prop := k = .non ∨ askB k = true
theorem v_show_ask' (h : AskOk d) : Fv (cal (n + 6)) 156 [d] S (.str (askT d)) := by
  rcases h with rfl | h
  · exact v_show_ask_non (n := n + 5)
  · exact v_show_ask h
theorem askT_len' (h : AskOk d) : (askT d).length ≤ 70 := by
  rcases h with rfl | h
  · show 1 ≤ 70; decide
  · exact askT_len h
/-! rows -/
def rowT : D → List Nat
  | .tup _ [.int a, .int b, k] => intL a ++ ([46] ++ (intL b ++ ([32] ++ askT k)))
  | _ => []
def RowOk (r : D) : Prop := ∃ q a b k, r = .tup q [.int a, .int b, k] ∧ 0 ≤ a ∧ a ≤ 1000000000 ∧ 0 ≤ b ∧ b ≤ 29 ∧ AskOk k
theorem rowT_len (h : RowOk d) : (rowT d).length ≤ 100 := by
  obtain ⟨q, a, b, k, rfl, h1, h2, h3, h4, h5⟩ := h
  have := askT_len' h5
  have := (small_len h1 h2).2
  have := (small_len (i := b) h3 (by omega)).2
  simp only [rowT, List.length_append, List.length_cons, List.length_nil]
  omega
theorem v_show_row {p : Po} {m : Nat} {rows : List D} (hp : S.get p = some (.lst m rows)) (hr : ∀ r ∈ rows, RowOk r) (hl : rows.length ≤ 10000) : Fv (cal (n + 7)) 157 [.obj p] S (.str (TL.joinL [10] (rows.map rowT))) := by
  refine fv_body (c := cal (n + 6)) (fun _ _ => rfl) (ps_fin (pv_join (x := [10]) pv_c (pl_lc (f := fun x => .str (rowT x)) (pi_obj (pv_var rfl) fun S1 l => seqD_lst (l.get hp)) (fun x hx => ?_) (by unfold big; omega)) (mapO_strD _ _) ?_))
  · obtain ⟨q, a, b, k, rfl, h1, h2, h3, h4, h5⟩ := hr x hx
    have := askT_len' h5
    obtain ⟨s1, s2⟩ := small_len h1 h2
    obtain ⟨s3, s4⟩ := small_len (i := b) h3 (by omega)
    refine ⟨_, fun _ => rfl, Pv.to (pv_joined (pj2 (pv_fmtI (pv_var rfl) s1) pv_c (pv_fmtI (pv_var rfl) s3) pv_c (pv_fmtS (pv_call (pa_c (pv_var rfl) pa_n) (v_show_ask' (n := n) h5)) (by unfold big; omega))) ?_) ?_⟩
    · simp only [List.flatten_cons, List.flatten_nil, List.length_append, List.length_cons, List.length_nil]
      unfold big
      omega
    · simp [rowT]
  · have := sums_le (m := 100) (ps := rows.map rowT) fun p hp => by
      obtain ⟨r, hr1, rfl⟩ := List.mem_map.mp hp
      exact rowT_len (hr r hr1)
    rw [List.length_map] at this ⊢
    show _ + rows.length * 1 ≤ big
    unfold big
    omega
/-- a row with something that is no ask is refused -/
theorem e_show_row {p : Po} {m : Nat} {a b : Int} (hp : S.get p = some (.lst m [.tup true [.int a, .int b, d]])) (hl : Lk S d) (hs : ∀ q xs, d = .tup q xs → Sma d) (hn : d ≠ .non) (hi : ∀ S1, dIs d .non S1 = .ok (.bl false) S1) (h : askB d = false)
    (ha : shortI a = true) (hb : shortI b = true) (hal : (intL a).length ≤ 40) (hbl : (intL b).length ≤ 40) : Fe (cal (n + 7)) 157 [.obj p] S 6 [] := by
  refine fe_body (c := cal (n + 6)) (env := (List.map some [.obj p] ++ List.replicate 3 none)) (fun _ _ => rfl) (ps_ex (ps_rete (pe_bm (x := .str [10]) pv_c (fun _ => rfl) ?_)))
  refine pe_lc (m := 0) (f := fun x => x) (pi_obj (xs := [.tup true [.int a, .int b, d]]) (pv_var rfl) fun S1 l => seqD_lst (l.get hp)) (by simp) (fun x hx => by simp at hx) ⟨_, fun _ => rfl, ?_⟩ (by simp [big])
  exact pe_jF (vs := [eFmt (eVar 1), eC (.str [46]), eFmt (eVar 2), eC (.str [32])]) (r := []) (pj_c (pv_fmtI (pv_var rfl) ha) (pj_c pv_c (pj_c (pv_fmtI (pv_var rfl) hb) (pj_c pv_c pj_n)))) (by simp [big]; omega)
    (pe_fmt (pe_call (pa_c (pv_var rfl) pa_n) (e_show_ask (n := n) hl hs hn hi h)))
/-! answers as texts -/
theorem v_show_answer (h : ansB d = true) (hs : ∀ i, d = .int i → shortI i = true) : Fv (cal (n + 1)) 158 [d] S (.str (ansT d)) := by
  refine fv_body (c := cal n) (fun _ _ => rfl) ?_
  cases d with
  | non =>
    apply ps_ifr
    · nofun
    · exact fun _ => pv_c
    · intro hk; cases hk
  | bl b =>
    apply ps_ifr
    · nofun
    · intro hk; cases hk
    · intro _
      refine ps_ifr (pt_of (pv_is (pv_var rfl) (tys_of rfl))) (fun _ => ?_) fun hk => by cases hk
      refine pv_if (pt_of (pv_var rfl)) (fun hk => ?_) fun hk => ?_
      · subst hk; exact pv_c
      · subst hk; exact pv_c
  | int i =>
    apply ps_ifr
    · nofun
    · intro hk; cases hk
    · intro _
      refine ps_ifr (pt_of (pv_is (pv_var rfl) (tys_of rfl))) (fun hk => by cases hk) fun _ => ps_fin (pv_b (pa_c (pv_var rfl) pa_n) fun _ => str_i (hs i rfl))
  | _ => cases h
/-! states -/
theorem v_look_at_state (h : staB d = true) (hs : Sma d) : Fv (cal (n + 6)) 27 [d] S .non := by
  have c1 := v_is_state (S := S) (n := n) (d := d) hs.lk fun _ _ _ => hs
  refine fv_none (c := cal (n + 5)) (env := List.map some [d]) (fun _ _ => rfl) ?_
  apply ps_ifn
  · nofun
  · intro hk
    rw [h] at hk
    cases hk
  · exact fun _ => ps_nil
theorem e_look_at_state (hl : Lk S d) (hs : ∀ q xs, d = .tup q xs → Sma d) (h : staB d = false) : Fe (cal (n + 6)) 27 [d] S 2 [] := by
  have c1 := v_is_state (S := S) (n := n) (d := d) hl hs
  refine fe_body (c := cal (n + 5)) (env := List.map some [d]) (fun _ _ => rfl) ?_
  refine ps_ifn (k := true) ?_ (fun _ => ps_ex (ps_ex ps_raise)) fun hk => by cases hk
  apply Pt.to
  · nofun
  · rw [h]; rfl
theorem e_show_state (hl : Lk S d) (hs : ∀ q xs, d = .tup q xs → Sma d) (h : staB d = false) : Fe (cal (n + 7)) 159 [d] S 2 [] :=
  fe_body (c := cal (n + 6)) (env := List.map some [d] ++ List.replicate 11 none) (fun _ _ => rfl) (ps_ex (ps_xe (pe_call (pa_c (pv_var rfl) pa_n) (e_look_at_state (n := n) hl hs h))))
end
end Ev
set_option Elab.async false
set_option linter.all false
set_option maxRecDepth 100000
set_option maxHeartbeats 0
namespace Ev
local macro_rules
  | `(tactic| nofun) => `(tactic| first
    | exact pv_var rfl
    | exact pv_c
    | exact pa_n
    | exact pt_yes
    | exact po_no
    | assumption
    | (with_reducible apply po_part
       nofun)
    | (with_reducible apply pa_c
       · nofun
       · nofun)
    | (with_reducible apply pt_of
       nofun)
    | (with_reducible apply pt_not
       nofun)
    | (with_reducible apply pt_or_t
       with_reducible apply Pt.to
       · nofun
       · first | rfl | (simp [*]; done))
    | (with_reducible apply pt_or
       · nofun
       · (intro _
          nofun))
    | (with_reducible apply pt_and_f
       with_reducible apply Pt.to
       · nofun
       · first | rfl | (simp [*]; done))
    | (with_reducible apply pt_and
       · nofun
       · (intro _
          nofun))
    | (with_reducible apply pv_and_f
       with_reducible apply Pv.to
       · nofun
       · first | rfl | (simp [*]; done))
    | (with_reducible apply pv_and
       · nofun
       · (intro _
          nofun))
    | (with_reducible apply pv_or_t
       with_reducible apply Pv.to
       · nofun
       · first | rfl | (simp [*]; done))
    | (with_reducible apply pv_or
       · nofun
       · (intro _
          nofun))
    | (with_reducible apply pv_not
       nofun)
    | (with_reducible apply pv_neg
       nofun)
    | (with_reducible apply pv_is
       · nofun
       · first | exact tys_of rfl | assumption)
    | (with_reducible apply pv_tup
       · nofun
       · exact of_decide_eq_true rfl)
    | (with_reducible apply pl_lst
       · nofun
       · exact of_decide_eq_true rfl)
    | (with_reducible apply pv_call
       · nofun
       · assumption)
    | (with_reducible apply pl_call
       · nofun
       · assumption)
    | (with_reducible apply pv_callK
       · nofun
       · nofun
       · assumption)
    | (with_reducible apply pv_b
       · nofun
       · first | exact fun _ => len_t | exact fun _ => len_s (by assumption) | exact fun _ => rfl)
    | (with_reducible apply pv_bS
       · nofun
       · exact fun _ l => len_l (l.get (by assumption)))
    | (with_reducible apply pv_bin
       · nofun
       · nofun
       · first | exact fun _ => le_i | exact fun _ => lt_i | exact fun _ => gt_i | exact fun _ => ge_i | exact fun _ => eq_i | exact fun _ => ne_i | exact fun _ => eq_s | exact fun _ => ne_s | exact fun _ => in_two | exact fun _ => ix_t rfl | exact fun _ => rfl)
    | (with_reducible apply pv_binS
       · nofun
       · nofun
       · exact fun _ l => ix_l (l.get (by assumption)) rfl)
    | (with_reducible apply pv_chain
       · nofun
       · nofun
       · exact fun _ => le_i
       · (intro _
          nofun)
       · exact fun _ _ => le_i)
    | (with_reducible apply pv_bm
       · nofun
       · nofun
       · exact fun _ => rfl
       · exact fun _ => rfl)
    | (with_reducible apply pv_tupl
       nofun))

theorem sSeq_run {c : Cal} {env env1 : Slots} {S1 S2 : Sto} {a b : Sv} (h : a c env S1 = .nx env1 S2) : sSeq a b c env S1 = b c env1 S2 := by unfold sSeq; rw [h]
theorem run_setl1 {c : Cal} {env : Slots} {S1 S2 : Sto} {i : Nat} {e : Ev} {d : D} (he : e c env S1 = .ok d S2) (w : Wf S2) : sSet (gN i) (eLst (aCons e aNil)) c env S1 = .nx (env.set i (some (.obj S2.nx))) (S2.add (.lst 0 [d])) := by
  unfold sSet eLst
  have h1 : aCons e aNil c env S1 = .ok [d] S2 := by unfold aCons; rw [he]; rfl
  rw [h1]
  show Rs.bindS (mkO (.lst 0 [d]) S2) _ _ = _
  rw [mkO_eq w]
  rfl
section
variable {S : Sto} {n : Nat} {d : D} {t : Tyn}
/-! states as texts -/
def sBook : List Nat := [98, 111, 111, 107]
def sAnss : List Nat := [97, 110, 115, 119, 101, 114, 115]
def sMems : List Nat := [109, 101, 109, 98, 101, 114, 115]
def bokT : D → List Nat
  | .tup _ [.str nm, .int v] => nm ++ ([61] ++ intL v)
  | _ => []
def anT : D → List Nat
  | .tup _ [.int a, .int s, e] => intL a ++ ([46] ++ (intL s ++ ([61] ++ ansT e)))
  | _ => []
def staT : D → List Nat
  | .tup _ [.tup _ bs, .tup _ as, .tup _ ms] => TL.joinL [10] [TL.joinL [32] (sBook :: bs.map bokT), TL.joinL [32] (sAnss :: as.map anT), TL.joinL [32] (sMems :: ms.map strOf)]
  | _ => []
def BokOk (x : D) : Prop := ∃ q nm v, x = .tup q [.str nm, .int v] ∧ nameB (.str nm) = true ∧ v.natAbs < 10 ^ 31
def AnOk (x : D) : Prop := ∃ q a s e, x = .tup q [.int a, .int s, e] ∧ 0 ≤ a ∧ a ≤ 9 ∧ 1 ≤ s ∧ s ≤ 1000000000 ∧ ansB e = true ∧ ∀ i, e = .int i → i.natAbs < 10 ^ 31
def MemOk (x : D) : Prop := ∃ i, x = .int i ∧ 0 ≤ i ∧ i ≤ 30
theorem ansT_len (h : ansB d = true) (hi : ∀ i, d = .int i → i.natAbs < 10 ^ 31) : (ansT d).length ≤ 32 := by
  cases d with
  | non => show 1 ≤ 32; decide
  | bl b => cases b <;> (simp [ansT])
  | int i => exact intL_len (k := 31) (by decide) (hi i rfl)
  | _ => cases h
theorem bokT_len (h : BokOk d) : (bokT d).length ≤ 60 := by
  obtain ⟨q, nm, v, rfl, h1, h2⟩ := h
  have := (name_len h1).2.1
  have := intL_len (k := 31) (by decide) h2
  simp only [bokT, List.length_append, List.length_cons, List.length_nil]
  omega
theorem anT_len (h : AnOk d) : (anT d).length ≤ 60 := by
  obtain ⟨q, a, s, e, rfl, h1, h2, h3, h4, h5, h6⟩ := h
  have := ansT_len h5 h6
  have := (small_len h1 (by omega)).2
  have := (small_len (i := s) (by omega) h4).2
  simp only [anT, List.length_append, List.length_cons, List.length_nil]
  omega
theorem memT_len (h : MemOk d) : (strOf d).length ≤ 60 := by
  obtain ⟨i, rfl, h1, h2⟩ := h
  have := (small_len (i := i) h1 (by omega)).2
  simp only [strOf]
  omega
theorem tops (h : ∀ p ∈ (ps : List (List Nat)), p.length ≤ 60) (hl : ps.length ≤ 3000) (s : List Nat) (hs : s.length ≤ 60) : (((s :: ps).map (·.length)).sum + (s :: ps).length * [32].length ≤ big) ∧ (TL.joinL [32] (s :: ps)).length ≤ 200000 := by
  have h1 := sums_le (m := 60) (ps := s :: ps) fun p hp => by
    rcases List.mem_cons.mp hp with rfl | hp
    · exact hs
    · exact h p hp
  have h2 := joinL_len [32] (s :: ps)
  simp only [List.length_cons, List.length_nil] at h1 h2 ⊢
  unfold big
  omega
theorem v_show_state {q q1 q2 q3 : Bool} {bs as ms : List D} (h : staB (.tup q [.tup q1 bs, .tup q2 as, .tup q3 ms]) = true) (hb : ∀ x ∈ bs, BokOk x) (ha : ∀ x ∈ as, AnOk x) (hm : ∀ x ∈ ms, MemOk x) (lb : bs.length ≤ 3000) (la : as.length ≤ 3000) (lm : ms.length ≤ 3000)
    (hs : Sma (.tup q [.tup q1 bs, .tup q2 as, .tup q3 ms])) : Fv (cal (n + 7)) 159 [.tup q [.tup q1 bs, .tup q2 as, .tup q3 ms]] S (.str (staT (.tup q [.tup q1 bs, .tup q2 as, .tup q3 ms]))) := by
  refine fv_body (c := cal (n + 6)) (fun _ _ => rfl) (ps_seq (ps_x (pv_call (pa_c (pv_var rfl) pa_n) (v_look_at_state (n := n) h hs))) (ps_seq (ps_set (pv_var rfl) fun _ => rfl) ?_))
  -- the three rows, whatever stands in slot 4
  have E1 : ∀ o, Pl (cal (n + 6)) [some (.tup q [.tup q1 bs, .tup q2 as, .tup q3 ms]), some (.tup q1 bs), some (.tup q2 as), some (.tup q3 ms), o, none, none, none, none, none, none, none] S (eBin dAdd (eLst (aCons (eC (.str [98, 111, 111, 107])) aNil)) (eLc [5, 6] (iVal (eVar 1)) (gT [(gN 5), (gN 6)]) tYesV (eJoined [(eFmt (eVar 5)), (eC (.str [61])), (eFmt (eVar 6))])))
      ((sBook :: bs.map bokT).map .str) := fun o => by
    refine Pl.to (pl_cat (pl_lst (pa_c pv_c pa_n) (of_decide_eq_true rfl)) (pl_lc (f := fun x => .str (bokT x)) (pi_tup (pv_var rfl)) (fun x hx => ?_) (by unfold big; omega)) (by rw [List.length_map]; unfold big; show 1 + _ ≤ _; omega)) ?_
    · obtain ⟨q, nm, v, rfl, h1, h2⟩ := hb x hx
      have l1 := (name_len h1).2.1
      have l2 := intL_len (k := 31) (by decide) h2
      refine ⟨_, fun _ => rfl, Pv.to (pv_joined (pj_c (pv_fmtS (pv_var rfl) (by unfold big; omega)) (pj_c pv_c (pj_c (pv_fmtI (pv_var rfl) (shortI_of h2)) pj_n))) ?_) ?_⟩
      · simp only [List.flatten_cons, List.flatten_nil, List.length_append, List.length_cons, List.length_nil]
        unfold big
        omega
      · simp [bokT]
    · simp [sBook]
  have E2 : ∀ o, Pl (cal (n + 6)) [some (.tup q [.tup q1 bs, .tup q2 as, .tup q3 ms]), some (.tup q1 bs), some (.tup q2 as), some (.tup q3 ms), o, none, none, none, none, none, none, none] S (eBin dAdd (eLst (aCons (eC (.str [97, 110, 115, 119, 101, 114, 115])) aNil)) (eLc [7, 8, 9] (iVal (eVar 2)) (gT [(gN 7), (gN 8), (gN 9)]) tYesV (eJoined [(eFmt (eVar 7)), (eC (.str [46])), (eFmt (eVar 8)), (eC (.str [61])), (eFmt (eCall 158 [] (aCons (eVar 9) aNil)))])))
      ((sAnss :: as.map anT).map .str) := fun o => by
    refine Pl.to (pl_cat (pl_lst (pa_c pv_c pa_n) (of_decide_eq_true rfl)) (pl_lc (f := fun x => .str (anT x)) (pi_tup (pv_var rfl)) (fun x hx => ?_) (by unfold big; omega)) (by rw [List.length_map]; unfold big; show 1 + _ ≤ _; omega)) ?_
    · obtain ⟨q, a, s, e, rfl, h1, h2, h3, h4, h5, h6⟩ := ha x hx
      have l0 := ansT_len h5 h6
      obtain ⟨s1, s2⟩ := small_len (i := a) h1 (by omega)
      obtain ⟨s3, s4⟩ := small_len (i := s) (by omega) h4
      refine ⟨_, fun _ => rfl, Pv.to (pv_joined (pj2 (pv_fmtI (pv_var rfl) s1) pv_c (pv_fmtI (pv_var rfl) s3) pv_c (pv_fmtS (pv_call (pa_c (pv_var rfl) pa_n) (v_show_answer (n := n + 5) h5 fun i e => shortI_of (h6 i e))) (by unfold big; omega))) ?_) ?_⟩
      · simp only [List.flatten_cons, List.flatten_nil, List.length_append, List.length_cons, List.length_nil]
        unfold big
        omega
      · simp [anT]
    · simp [sAnss]
  have E3 : ∀ o, Pl (cal (n + 6)) [some (.tup q [.tup q1 bs, .tup q2 as, .tup q3 ms]), some (.tup q1 bs), some (.tup q2 as), some (.tup q3 ms), o, none, none, none, none, none, none, none] S (eBin dAdd (eLst (aCons (eC (.str [109, 101, 109, 98, 101, 114, 115])) aNil)) (eLc [10] (iVal (eVar 3)) (gN 10) tYesV (eB bStr (aCons (eVar 10) aNil))))
      ((sMems :: ms.map strOf).map .str) := fun o => by
    refine Pl.to (pl_cat (pl_lst (pa_c pv_c pa_n) (of_decide_eq_true rfl)) (pl_lc (f := fun x => .str (strOf x)) (pi_tup (pv_var rfl)) (fun x hx => ?_) (by unfold big; omega)) (by rw [List.length_map]; unfold big; show 1 + _ ≤ _; omega)) ?_
    · obtain ⟨i, rfl, h1, h2⟩ := hm x hx
      obtain ⟨s1, s2⟩ := small_len (i := i) h1 (by omega)
      exact ⟨_, fun _ => rfl, pv_b (pa_c (pv_var rfl) pa_n) fun _ => str_i s1⟩
    · simp [sMems]
  intro S1 l
  obtain ⟨pA, S2, e2, l2, gA, nA⟩ := E1 none S1 l
  have l3 := le_add (o := .lst 0 [.obj pA]) l2.wf
  obtain ⟨pB, S4, e4, l4, gB, nB⟩ := E2 (some (.obj S2.nx)) _ (l.trans (l2.trans l3))
  have g4 : S4.get S2.nx = some (.lst 0 [.obj pA]) := l4.get add_get
  have wA := l2.wf _ _ gA
  have wB := l4.wf _ _ gB
  have l5 : Le S1 (S4.put S2.nx (.lst 0 ([.obj pA] ++ [.obj pB]))) := (l2.trans (l3.trans l4)).put g4 l2.nx
  obtain ⟨pC, S6, e6, l6, gC, nC⟩ := E3 (some (.obj S2.nx)) _ (l.trans l5)
  have g6 : S6.get S2.nx = some (.lst 0 ([.obj pA] ++ [.obj pB])) := l6.get Sto.put_same
  have l7 : Le S1 (S6.put S2.nx (.lst 0 ([.obj pA] ++ [.obj pB] ++ [.obj pC]))) := (l5.trans l6).put g6 l2.nx
  have nA2 : pA ≠ S2.nx := fun e => by rw [e] at wA; omega
  have nB2 : pB ≠ S2.nx := fun e => by have := l3.nx; rw [add_nx] at nB; rw [e] at nB; omega
  have nC2 : pC ≠ S2.nx := fun e => by
    have h1 : (S4.put S2.nx (.lst 0 ([.obj pA] ++ [.obj pB]))).nx.ix ≤ pC.ix := nC
    have h2 : S2.nx.ix < S4.nx.ix := l4.wf _ _ g4
    have h3 : (S4.put S2.nx (.lst 0 ([.obj pA] ++ [.obj pB]))).nx.ix = S4.nx.ix := rfl
    rw [e] at h1
    omega
  have hA : (S6.put S2.nx (.lst 0 ([.obj pA] ++ [.obj pB] ++ [.obj pC]))).get pA = some (.lst 0 ((sBook :: bs.map bokT).map .str)) := by
    rw [Sto.put_ne nA2]
    exact l6.get (by rw [Sto.put_ne nA2]; exact l4.get (l3.get gA))
  have hB : (S6.put S2.nx (.lst 0 ([.obj pA] ++ [.obj pB] ++ [.obj pC]))).get pB = some (.lst 0 ((sAnss :: as.map anT).map .str)) := by
    rw [Sto.put_ne nB2]
    exact l6.get (by rw [Sto.put_ne nB2]; exact gB)
  have hC : (S6.put S2.nx (.lst 0 ([.obj pA] ++ [.obj pB] ++ [.obj pC]))).get pC = some (.lst 0 ((sMems :: ms.map strOf).map .str)) := by
    rw [Sto.put_ne nC2]; exact gC
  generalize hS7 : S6.put S2.nx (.lst 0 ([.obj pA] ++ [.obj pB] ++ [.obj pC])) = S7 at l7 hA hB hC
  have hR : S7.get S2.nx = some (.lst 0 ([.obj pA] ++ [.obj pB] ++ [.obj pC])) := by rw [← hS7]; exact Sto.put_same
  have t1 := tops (ps := bs.map bokT) (fun p hp => by obtain ⟨x, hx, rfl⟩ := List.mem_map.mp hp; exact bokT_len (hb x hx)) (by rw [List.length_map]; exact lb) sBook (by decide)
  have t2 := tops (ps := as.map anT) (fun p hp => by obtain ⟨x, hx, rfl⟩ := List.mem_map.mp hp; exact anT_len (ha x hx)) (by rw [List.length_map]; exact la) sAnss (by decide)
  have t3 := tops (ps := ms.map strOf) (fun p hp => by obtain ⟨x, hx, rfl⟩ := List.mem_map.mp hp; exact memT_len (hm x hx)) (by rw [List.length_map]; exact lm) sMems (by decide)
  have fin : Pv (cal (n + 6)) [some (.tup q [.tup q1 bs, .tup q2 as, .tup q3 ms]), some (.tup q1 bs), some (.tup q2 as), some (.tup q3 ms), some (.obj S2.nx), none, none, none, none, none, none, none] S7
      (eBM isStrD mJoin (eC (.str [10])) (aCons (eLc [11] (iVal (eVar 4)) (gN 11) tYesV (eBM isStrD mJoin (eC (.str [32])) (aCons (eVar 11) aNil))) aNil)) (.str (staT (.tup q [.tup q1 bs, .tup q2 as, .tup q3 ms]))) := by
    let f : D → List Nat := fun x => match x with
      | .obj p => if p = pA then TL.joinL [32] (sBook :: bs.map bokT) else if p = pB then TL.joinL [32] (sAnss :: as.map anT) else TL.joinL [32] (sMems :: ms.map strOf)
      | _ => []
    have nBA : pB ≠ pA := fun e => by
      have := l3.nx; rw [add_nx] at nB; rw [e] at nB; omega
    have nCA : pC ≠ pA := fun e => by
      have h1 : (S4.put S2.nx (.lst 0 ([.obj pA] ++ [.obj pB]))).nx.ix ≤ pC.ix := nC
      have h3 : (S4.put S2.nx (.lst 0 ([.obj pA] ++ [.obj pB]))).nx.ix = S4.nx.ix := rfl
      have h4 := l4.nx
      have h5 := l3.nx
      rw [e] at h1; omega
    have nCB : pC ≠ pB := fun e => by
      have h1 : (S4.put S2.nx (.lst 0 ([.obj pA] ++ [.obj pB]))).nx.ix ≤ pC.ix := nC
      have h3 : (S4.put S2.nx (.lst 0 ([.obj pA] ++ [.obj pB]))).nx.ix = S4.nx.ix := rfl
      rw [e] at h1; omega
    have fA : f (.obj pA) = TL.joinL [32] (sBook :: bs.map bokT) := if_pos rfl
    have fB : f (.obj pB) = TL.joinL [32] (sAnss :: as.map anT) := by show (if pB = pA then _ else _) = _; rw [if_neg nBA, if_pos rfl]
    have fC : f (.obj pC) = TL.joinL [32] (sMems :: ms.map strOf) := by show (if pC = pA then _ else _) = _; rw [if_neg nCA, if_neg nCB]
    have ej : ∀ L : List (List Nat), mapO strD (L.map .str) = some L := fun L => by simpa using mapO_strD (fun x => x) L
    refine Pv.to (pv_join (x := [10]) (ls := [f (.obj pA), f (.obj pB), f (.obj pC)]) pv_c (pl_lc (f := fun x => .str (f x)) (pi_obj (xs := [.obj pA] ++ [.obj pB] ++ [.obj pC]) (pv_var rfl) fun S8 l8 => seqD_lst (l8.get hR)) (fun x hx => ?_) (of_decide_eq_true rfl)) rfl ?_) ?_
    · simp only [List.cons_append, List.nil_append, List.mem_cons, List.not_mem_nil, or_false] at hx
      rcases hx with rfl | rfl | rfl
      · exact ⟨_, fun _ => rfl, by rw [fA]; exact pv_joino pv_c (pv_var rfl) hA (ej _) t1.1⟩
      · exact ⟨_, fun _ => rfl, by rw [fB]; exact pv_joino pv_c (pv_var rfl) hB (ej _) t2.1⟩
      · exact ⟨_, fun _ => rfl, by rw [fC]; exact pv_joino pv_c (pv_var rfl) hC (ej _) t3.1⟩
    · rw [fA, fB, fC]
      have := t1.2
      have := t2.2
      have := t3.2
      simp only [List.map_cons, List.map_nil, List.sum_cons, List.sum_nil, List.length_cons, List.length_nil]
      unfold big
      omega
    · rw [fA, fB, fC]; rfl
  obtain ⟨S8, e8, l8⟩ := ps_fin fin S7 (.refl l7.wf)
  refine ⟨S8, ?_, l7.trans l8⟩
  have r1 := run_setl1 (i := 4) e2 l2.wf
  have r2 := run_append (i := 4) rfl add_get (of_decide_eq_true rfl) e4 l4
  have r3 := run_append (i := 4) rfl Sto.put_same (of_decide_eq_true rfl) e6 l6
  refine (sSeq_run r1).trans ((sSeq_run r2).trans ((sSeq_run r3).trans ?_))
  rw [hS7]
  exact e8
end
end Ev
set_option Elab.async false
set_option linter.all false
set_option maxRecDepth 100000
set_option maxHeartbeats 0
namespace Ev
open PySem
local macro_rules
  | `(tactic| nofun) => `(tactic| first
    | exact pv_var rfl
    | exact pv_c
    | exact pa_n
    | exact pt_yes
    | exact po_no
    | assumption
    | (with_reducible apply po_part
       nofun)
    | (with_reducible apply pa_c
       · nofun
       · nofun)
    | (with_reducible apply pt_of
       nofun)
    | (with_reducible apply pt_not
       nofun)
    | (with_reducible apply pt_or_t
       with_reducible apply Pt.to
       · nofun
       · first | rfl | (simp [*]; done))
    | (with_reducible apply pt_or
       · nofun
       · (intro _
          nofun))
    | (with_reducible apply pt_and_f
       with_reducible apply Pt.to
       · nofun
       · first | rfl | (simp [*]; done))
    | (with_reducible apply pt_and
       · nofun
       · (intro _
          nofun))
    | (with_reducible apply pv_and_f
       with_reducible apply Pv.to
       · nofun
       · first | rfl | (simp [*]; done))
    | (with_reducible apply pv_and
       · nofun
       · (intro _
          nofun))
    | (with_reducible apply pv_or_t
       with_reducible apply Pv.to
       · nofun
       · first | rfl | (simp [*]; done))
    | (with_reducible apply pv_or
       · nofun
       · (intro _
          nofun))
    | (with_reducible apply pv_not
       nofun)
    | (with_reducible apply pv_neg
       nofun)
    | (with_reducible apply pv_is
       · nofun
       · first | exact tys_of rfl | assumption)
    | (with_reducible apply pv_tup
       · nofun
       · exact of_decide_eq_true rfl)
    | (with_reducible apply pl_lst
       · nofun
       · exact of_decide_eq_true rfl)
    | (with_reducible apply pv_call
       · nofun
       · assumption)
    | (with_reducible apply pl_call
       · nofun
       · assumption)
    | (with_reducible apply pv_callK
       · nofun
       · nofun
       · assumption)
    | (with_reducible apply pv_b
       · nofun
       · first | exact fun _ => len_t | exact fun _ => len_s (by assumption) | exact fun _ => rfl)
    | (with_reducible apply pv_bS
       · nofun
       · exact fun _ l => len_l (l.get (by assumption)))
    | (with_reducible apply pv_bin
       · nofun
       · nofun
       · first | exact fun _ => le_i | exact fun _ => lt_i | exact fun _ => gt_i | exact fun _ => ge_i | exact fun _ => eq_i | exact fun _ => ne_i | exact fun _ => eq_s | exact fun _ => ne_s | exact fun _ => in_two | exact fun _ => ix_t rfl | exact fun _ => rfl)
    | (with_reducible apply pv_binS
       · nofun
       · nofun
       · exact fun _ l => ix_l (l.get (by assumption)) rfl)
    | (with_reducible apply pv_chain
       · nofun
       · nofun
       · exact fun _ => le_i
       · (intro _
          nofun)
       · exact fun _ _ => le_i)
    | (with_reducible apply pv_bm
       · nofun
       · nofun
       · exact fun _ => rfl
       · exact fun _ => rfl)
    | (with_reducible apply pv_tupl
       nofun))

/-! ### words read -/
def figB (l : List Nat) : Bool := decide (1 ≤ l.length) && decide (l.length ≤ 30) && l.all fun a => decide (48 ≤ a) && decide (a ≤ 57)
def figD (l : List Nat) : D := if figB l = true ∧ ¬ (l ≠ [48] ∧ TL.pre [48] l = true) then .int (NumText.digitsVal l) else .non
def numD (l : List Nat) : D := if TL.pre [45] l = true then (match figD (l.drop 1) with
    | .int i => if i = 0 then .non else .int (0 - i)
    | _ => .non) else figD l
def bef (s l : List Nat) : List Nat := match TL.par s [] l with
  | some (p, _) => p
  | none => l
def mid (s l : List Nat) : List Nat := match TL.par s [] l with
  | some _ => s
  | none => []
def aft (s l : List Nat) : List Nat := match TL.par s [] l with
  | some (_, q) => q
  | none => []
theorem partD_eq (l s : List Nat) : partD l s = [bef s l, mid s l, aft s l] := by
  unfold partD bef mid aft
  cases TL.par s [] l with
  | none => rfl
  | some p => rfl
theorem figD_form (l : List Nat) : figD l = .non ∨ ∃ n : Nat, figD l = .int n := by
  unfold figD
  split
  · exact .inr ⟨_, rfl⟩
  · exact .inl rfl
theorem numD_form (l : List Nat) : numD l = .non ∨ ∃ i : Int, numD l = .int i := by
  unfold numD
  split
  · split
    · split
      · exact .inl rfl
      · exact .inr ⟨_, rfl⟩
    · exact .inl rfl
  · rcases figD_form l with h | ⟨n, h⟩
    · exact .inl h
    · exact .inr ⟨_, h⟩
theorem par_len (s : List Nat) : ∀ (l acc p q : List Nat), TL.par s acc l = some (p, q) → p.length ≤ acc.length + l.length ∧ q.length ≤ l.length
  | [], acc, p, q, h => by cases h
  | c :: r, acc, p, q, h => by
    unfold TL.par at h
    split at h
    · cases h
      exact ⟨by simp, by simp⟩
    · have := par_len s r (acc ++ [c]) p q h
      simp only [List.length_append, List.length_cons, List.length_nil] at this ⊢
      omega
theorem bef_len (s l : List Nat) : (bef s l).length ≤ l.length := by
  unfold bef
  split
  · rename_i p q h
    have := (par_len s l [] p q h).1
    simpa using this
  · exact Nat.le_refl _
theorem aft_len (s l : List Nat) : (aft s l).length ≤ l.length := by
  unfold aft
  split
  · rename_i p q h
    exact (par_len s l [] p q h).2
  · exact Nat.zero_le _
theorem starts_s {l s : List Nat} {S : Sto} : mStarts (.str l) [.str s] S = .ok (.bl (TL.pre s l)) S := rfl
theorem part_s {l s : List Nat} {S : Sto} (hs : s.isEmpty = false) (hl : l.length ≤ big) : mPart (.str l) [.str s] S = .ok (.tup true [.str (bef s l), .str (mid s l), .str (aft s l)]) S := by
  unfold mPart
  dsimp only
  rw [hs, Nat.ble_eq_true_of_le hl, partD_eq]
  rfl
theorem isn_i {i : Int} {S : Sto} : dIs (.int i) .non S = .ok (.bl false) S := rfl
/-- numbers, or nothing -/
def IsNo (d : D) : Prop := d = .non ∨ ∃ i, d = .int i
theorem is_no {d : D} (h : IsNo d) {S : Sto} : dIs d .non S = .ok (.bl (match d with | .non => true | _ => false)) S := by
  rcases h with rfl | ⟨i, rfl⟩ <;> rfl
section
variable {S : Sto} {n : Nat} {d : D} {t : Tyn}
theorem v_figures_in {l : List Nat} (hl : l.length ≤ big) : Fv (cal (n + 1)) 160 [.str l] S (figD l) := by
  refine fv_body (c := cal n) (fun _ _ => rfl) ?_
  have e1 : (decide ((1 : Int) ≤ l.length) && decide ((l.length : Int) ≤ 30)) = (decide (1 ≤ l.length) && decide (l.length ≤ 30)) := by
    rw [Bool.eq_iff_iff]; simp only [Bool.and_eq_true, decide_eq_true_eq]; omega
  have key : Pt (cal n) (List.map some [D.str l] ++ List.replicate (2 - [D.str l].length) none) S (tOr' (tNot' (tOf (eChain dLe dLe (eC (.int (1))) (eB bLen (aCons (eVar 0) aNil)) (eC (.int (30)))))) (tNot' (tOf (eB bAll (aCons (eLc [1] (iVal (eVar 0)) (gN 1) tYesV (eBin dIn (eVar 1) (eC (.str [48, 49, 50, 51, 52, 53, 54, 55, 56, 57])))) aNil))))) (!figB l) := by
    refine Pt.to (pt_or (pt_not (pt_of (pv_chain pv_c (pv_b (pa_c (pv_var rfl) pa_n) fun _ => len_s hl) (fun _ => le_i) (fun _ => pv_c) fun _ _ => le_i))) fun _ => pt_not (pt_of (pv_all (pl_lc (f := fun x => .bl (match x with | .str [a] => decide (48 ≤ a) && decide (a ≤ 57) | _ => false)) (pi_str (pv_var rfl)) (fun x hx => ?_) (by rw [List.length_map]; exact hl)) (mapO_bl _ _)))) ?_
    · obtain ⟨a, ha, rfl⟩ := List.mem_map.mp hx
      exact ⟨_, fun _ => rfl, pv_bin (pv_var rfl) pv_c fun _ => in_figs⟩
    · rw [e1, List.map_map, List.all_map]
      unfold figB
      rw [← Bool.not_and]
      rfl
  refine ps_ifr key (fun hk => ?_) fun hk => ps_fin ?_
  · have hf : figB l = false := by cases z : figB l with
      | false => rfl
      | true => rw [z] at hk; cases hk
    exact pv_c.to (by unfold figD; rw [if_neg (fun z => by rw [hf] at z; cases z.1)])
  · have hf : figB l = true := by cases z : figB l with
      | true => rfl
      | false => rw [z] at hk; cases hk
    have hd := hf
    simp only [figB, Bool.and_eq_true, decide_eq_true_eq, List.all_eq_true] at hd
    refine pv_if (pt_and (pt_of (pv_bin (pv_var rfl) pv_c fun _ => ne_s)) fun _ => pt_of (pv_bm (pv_var rfl) (pa_c pv_c pa_n) (fun _ => rfl) fun _ => starts_s)) (fun hk2 => ?_) fun hk2 => ?_
    · rw [Bool.and_eq_true] at hk2
      exact pv_c.to (by unfold figD; rw [if_neg (fun z => z.2 ⟨by have := hk2.1; simpa using this, hk2.2⟩)])
    · refine pv_b (pa_c (pv_var rfl) pa_n) fun S1 => ?_
      unfold bInt
      dsimp only
      have h1 : digB l = true := List.all_eq_true.mpr fun a ha => by
        have := hd.2 a ha
        simpa using this
      have h2 : l.isEmpty = false := by
        cases l with
        | nil => simp at hd
        | cons a r => rfl
      rw [h1, h2, Nat.ble_eq_true_of_le (by omega)]
      unfold figD
      rw [if_pos ⟨hf, fun z => by
        have e : (!decide (l = [48]) && TL.pre [48] l) = true := by rw [Bool.and_eq_true]; exact ⟨by simpa using z.1, z.2⟩
        rw [e] at hk2; cases hk2⟩]
      rfl
theorem cut_sl {l : List Nat} {S : Sto} (hl : l.length ≤ big) : dCut (.str l) (some 1) none S = .ok (.str (l.drop 1)) S := by
  unfold dCut
  dsimp only
  rw [Nat.ble_eq_true_of_le hl]
  show Rs.ok (D.str (cutD l (some ((1 : Nat) : Int)) none)) S = _
  rw [cut_from]
theorem v_number_in {l : List Nat} (hl : l.length ≤ big) : Fv (cal (n + 2)) 161 [.str l] S (numD l) := by
  refine fv_body (c := cal (n + 1)) (fun _ _ => rfl) ?_
  refine ps_ifr (pt_not (pt_of (pv_bm (pv_var rfl) (pa_c pv_c pa_n) (fun _ => rfl) fun _ => starts_s))) (fun hk => ?_) fun hk => ?_
  · refine Pv.to (pv_call (pa_c (pv_var rfl) pa_n) (v_figures_in (n := n) hl)) ?_
    unfold numD
    rw [if_neg (by simpa using hk)]
  · refine ps_seq (ps_set (pv_call (pa_c (pv_sl (pv_var rfl) (po_part pv_c) po_no fun _ => cut_sl hl) pa_n) (v_figures_in (n := n) (by rw [List.length_drop]; omega))) fun _ => rfl) (ps_fin ?_)
    have e : numD l = match figD (l.drop 1) with
      | .int i => if i = 0 then .non else .int (0 - i)
      | _ => .non := by
      unfold numD
      rw [if_pos (by simpa using hk)]
    rw [e]
    rcases figD_form (l.drop 1) with z | ⟨m, z⟩
    · rw [z]
      exact pv_if (k := true) (pt_or_t (pt_of (pv_bin (pv_var rfl) pv_c fun _ => rfl))) (fun _ => pv_c) fun h => by cases h
    · rw [z]
      refine pv_if (pt_or (x := false) (pt_of (pv_bin (pv_var rfl) pv_c fun _ => rfl)) fun _ => pt_of (pv_bin (pv_var rfl) pv_c fun _ => eq_i)) (fun hk => ?_) fun hk => ?_
      · exact pv_c.to (by dsimp only; rw [if_pos (by simpa using hk)])
      · exact Pv.to (pv_bin pv_c (pv_var rfl) fun _ => rfl) (by dsimp only; rw [if_neg (by simpa using hk)])
theorem v_two_in {l : List Nat} (hl : l.length ≤ big) : Fv (cal (n + 2)) 162 [.str l] S (.tup true [figD (bef [46] l), figD (aft [46] l)]) := by
  refine fv_body (c := cal (n + 1)) (fun _ _ => rfl) (ps_seq (ps_set (pv_bm (pv_var rfl) (pa_c pv_c pa_n) (fun _ => rfl) fun _ => part_s rfl hl) fun _ => rfl) (ps_fin ?_))
  exact pv_tup (pa_c (pv_call (pa_c (pv_var rfl) pa_n) (v_figures_in (n := n) (Nat.le_trans (bef_len _ _) hl))) (pa_c (pv_call (pa_c (pv_var rfl) pa_n) (v_figures_in (n := n) (Nat.le_trans (aft_len _ _) hl))) pa_n)) (of_decide_eq_true rfl)
def ansR (l : List Nat) : List D := match tabV kv_201 l with
  | some d => [d]
  | none => match numD l with
    | .int i => [.int i]
    | _ => []
theorem v_answer_in {l : List Nat} (hl : l.length ≤ big) : Fl (cal (n + 3)) 163 [.str l] S (ansR l) := by
  refine fl_body (c := cal (n + 2)) (fun _ _ => rfl) ?_
  have hin : ∀ S1, kdIn 201 kv_201 (.str l) (.fnr 201) S1 = .ok (.bl (tabV kv_201 l).isSome) S1 := fun _ => rfl
  refine psl_ifr (pt_of (pv_bin (pv_var rfl) pv_c hin)) (fun hk => ?_) fun hk => ?_
  · obtain ⟨d, hd⟩ := Option.isSome_iff_exists.mp hk
    refine Pl.to (pl_lst (pa_c (pv_bin pv_c (pv_var rfl) fun S1 => (?_ : kdGet 201 kv_201 (.fnr 201) (.str l) S1 = .ok d S1)) pa_n) (of_decide_eq_true rfl)) ?_
    · show (match tabV kv_201 l with | some d => Rs.ok d S1 | none => .no) = _
      rw [hd]
    · unfold ansR; rw [hd]
  · have hn : tabV kv_201 l = none := by
      cases z : tabV kv_201 l with
      | none => rfl
      | some d => rw [z] at hk; cases hk
    refine psl_seq (ps_set (pv_call (pa_c (pv_var rfl) pa_n) (v_number_in (n := n) hl)) fun _ => rfl) (psl_fin ?_)
    rcases numD_form l with z | ⟨i, z⟩
    · refine Pl.to (pl_if (k := true) (pt_of (pv_bin (pv_var rfl) pv_c fun _ => by rw [z]; rfl)) (fun _ => pl_lst pa_n (of_decide_eq_true rfl)) fun h => by cases h) ?_
      unfold ansR; rw [hn, z]
    · refine Pl.to (pl_if (k := false) (pt_of (pv_bin (pv_var rfl) pv_c fun _ => by rw [z]; rfl)) (fun h => by cases h) fun _ => pl_lst (pa_c (pv_var rfl) pa_n) (of_decide_eq_true rfl)) ?_
      unfold ansR; rw [hn, z]
end
end Ev
set_option Elab.async false
set_option linter.all false
set_option maxRecDepth 100000
set_option maxHeartbeats 0
namespace Ev
open PySem
local macro_rules
  | `(tactic| nofun) => `(tactic| first
    | exact pv_var rfl
    | exact pv_c
    | exact pa_n
    | exact pt_yes
    | exact po_no
    | assumption
    | (with_reducible apply po_part
       nofun)
    | (with_reducible apply pa_c
       · nofun
       · nofun)
    | (with_reducible apply pt_of
       nofun)
    | (with_reducible apply pt_not
       nofun)
    | (with_reducible apply pt_or_t
       with_reducible apply Pt.to
       · nofun
       · first | rfl | (simp [*]; done))
    | (with_reducible apply pt_or
       · nofun
       · (intro _
          nofun))
    | (with_reducible apply pt_and_f
       with_reducible apply Pt.to
       · nofun
       · first | rfl | (simp [*]; done))
    | (with_reducible apply pt_and
       · nofun
       · (intro _
          nofun))
    | (with_reducible apply pv_and_f
       with_reducible apply Pv.to
       · nofun
       · first | rfl | (simp [*]; done))
    | (with_reducible apply pv_and
       · nofun
       · (intro _
          nofun))
    | (with_reducible apply pv_or_t
       with_reducible apply Pv.to
       · nofun
       · first | rfl | (simp [*]; done))
    | (with_reducible apply pv_or
       · nofun
       · (intro _
          nofun))
    | (with_reducible apply pv_not
       nofun)
    | (with_reducible apply pv_neg
       nofun)
    | (with_reducible apply pv_is
       · nofun
       · first | exact tys_of rfl | assumption)
    | (with_reducible apply pv_tup
       · nofun
       · exact of_decide_eq_true rfl)
    | (with_reducible apply pl_lst
       · nofun
       · exact of_decide_eq_true rfl)
    | (with_reducible apply pv_call
       · nofun
       · assumption)
    | (with_reducible apply pl_call
       · nofun
       · assumption)
    | (with_reducible apply pv_callK
       · nofun
       · nofun
       · assumption)
    | (with_reducible apply pv_b
       · nofun
       · first | exact fun _ => len_t | exact fun _ => len_s (by assumption) | exact fun _ => rfl)
    | (with_reducible apply pv_bS
       · nofun
       · exact fun _ l => len_l (l.get (by assumption)))
    | (with_reducible apply pv_bin
       · nofun
       · nofun
       · first | exact fun _ => le_i | exact fun _ => lt_i | exact fun _ => gt_i | exact fun _ => ge_i | exact fun _ => eq_i | exact fun _ => ne_i | exact fun _ => eq_s | exact fun _ => ne_s | exact fun _ => in_two | exact fun _ => ix_t rfl | exact fun _ => rfl)
    | (with_reducible apply pv_binS
       · nofun
       · nofun
       · exact fun _ l => ix_l (l.get (by assumption)) rfl)
    | (with_reducible apply pv_chain
       · nofun
       · nofun
       · exact fun _ => le_i
       · (intro _
          nofun)
       · exact fun _ _ => le_i)
    | (with_reducible apply pv_bm
       · nofun
       · nofun
       · exact fun _ => rfl
       · exact fun _ => rfl)
    | (with_reducible apply pv_tupl
       nofun))

theorem add_t {a b : List D} {S : Sto} (h : a.length + b.length ≤ big) : dAdd (.tup true a) (.tup true b) S = .ok (.tup true (a ++ b)) S := by
  unfold dAdd
  dsimp only
  rw [Nat.ble_eq_true_of_le h]
  have e : catW true true a b = true := by cases a <;> cases b <;> rfl
  rw [e]
theorem in_three {w a b e : List Nat} {S : Sto} : dIn (.str w) (.tup true [.str a, .str b, .str e]) S = .ok (.bl (decide (w = a) || (decide (w = b) || decide (w = e)))) S := by
  have z : dIn (.str w) (.tup true [.str a, .str b, .str e]) S = .ok (.bl (leq a w || (leq b w || (leq e w || false)))) S := rfl
  rw [z, leq_dec, leq_dec, leq_dec, Bool.or_false, show decide (a = w) = decide (w = a) from by simp [eq_comm], show decide (b = w) = decide (w = b) from by simp [eq_comm], show decide (e = w) = decide (w = e) from by simp [eq_comm]]
section
variable {c : Cal} {env : Slots} {S : Sto}
theorem pv_nel {a b : Ev} {p : Po} {k : Nat} {xs ys : List D} (ha : Pv c env S a (.obj p)) (hp : S.get p = some (.lst k xs)) (hb : Pl c env S b ys) (gx : ∀ x ∈ xs, Gd x) (gy : ∀ x ∈ ys, Gd x) (dx : ∀ x ∈ xs, depD x ≤ 59) (dy : ∀ x ∈ ys, depD x ≤ 59) :
    Pv c env S (eBin dNe a b) (.bl (!Dt.eqvs (xs.map dtD) (ys.map dtD))) := fun S1 l => by
  obtain ⟨S2, e2, l2⟩ := ha S1 l
  obtain ⟨q, S3, e3, l3, g3, _⟩ := hb S2 (l.trans l2)
  refine ⟨S3, ?_, l2.trans l3⟩
  unfold eBin
  rw [e2]
  show Rs.bind (b c env S2) _ = _
  rw [e3]
  show dNe (.obj p) (.obj q) S3 = _
  unfold dNe
  rw [deq_ll ((l.trans (l2.trans l3)).get hp) g3 gx gy dx dy]
theorem pv_eql {a b : Ev} {p : Po} {k : Nat} {xs ys : List D} (ha : Pv c env S a (.obj p)) (hp : S.get p = some (.lst k xs)) (hb : Pl c env S b ys) (gx : ∀ x ∈ xs, Gd x) (gy : ∀ x ∈ ys, Gd x) (dx : ∀ x ∈ xs, depD x ≤ 59) (dy : ∀ x ∈ ys, depD x ≤ 59) :
    Pv c env S (eBin dEq a b) (.bl (Dt.eqvs (xs.map dtD) (ys.map dtD))) := fun S1 l => by
  obtain ⟨S2, e2, l2⟩ := ha S1 l
  obtain ⟨q, S3, e3, l3, g3, _⟩ := hb S2 (l.trans l2)
  refine ⟨S3, ?_, l2.trans l3⟩
  unfold eBin
  rw [e2]
  show Rs.bind (b c env S2) _ = _
  rw [e3]
  show dEq (.obj p) (.obj q) S3 = _
  unfold dEq
  rw [deq_ll ((l.trans (l2.trans l3)).get hp) g3 gx gy dx dy]
theorem eqvs_nil (xs : List D) : Dt.eqvs (xs.map dtD) (([] : List D).map dtD) = xs.isEmpty := by cases xs <;> rfl
theorem pv_nenil {a : Ev} {p : Po} {k : Nat} {xs : List D} (ha : Pv c env S a (.obj p)) (hp : S.get p = some (.lst k xs)) (gx : ∀ x ∈ xs, Gd x) (dx : ∀ x ∈ xs, depD x ≤ 59) : Pv c env S (eBin dNe a (eLst aNil)) (.bl (!xs.isEmpty)) :=
  (pv_nel ha hp (pl_lst pa_n (of_decide_eq_true rfl)) gx (fun _ h => absurd h List.not_mem_nil) dx fun _ h => absurd h List.not_mem_nil).to (by rw [eqvs_nil])
theorem pv_eqnil {a : Ev} {p : Po} {k : Nat} {xs : List D} (ha : Pv c env S a (.obj p)) (hp : S.get p = some (.lst k xs)) (gx : ∀ x ∈ xs, Gd x) (dx : ∀ x ∈ xs, depD x ≤ 59) : Pv c env S (eBin dEq a (eLst aNil)) (.bl xs.isEmpty) :=
  (pv_eql ha hp (pl_lst pa_n (of_decide_eq_true rfl)) gx (fun _ h => absurd h List.not_mem_nil) dx fun _ h => absurd h List.not_mem_nil).to (by rw [eqvs_nil])
end
theorem gd_strs {ws : List (List Nat)} (h : ∀ w ∈ ws, ∀ a ∈ w, a < 128) : ∀ x ∈ ws.map D.str, Gd x := fun x hx => by
  obtain ⟨w, hw, rfl⟩ := List.mem_map.mp hx
  exact h w hw
theorem dep_strs {ws : List (List Nat)} : ∀ x ∈ ws.map D.str, depD x ≤ 59 := fun x hx => by
  obtain ⟨w, hw, rfl⟩ := List.mem_map.mp hx
  exact Nat.zero_le _
theorem smas_of {xs : List D} (h : ∀ x ∈ xs, Sma x) : Smas xs := by
  induction xs with
  | nil => simp [Smas]
  | cons x xs ih => simp only [Smas]; exact ⟨h x (by simp), ih fun y hy => h y (List.mem_cons_of_mem _ hy)⟩
theorem isno_sma {d : D} (h : IsNo d) : Sma d := by rcases h with rfl | ⟨i, rfl⟩ <;> simp [Sma]
def isWrd (w : List Nat) : Bool := decide (w = sPut) || (decide (w = sAdd) || decide (w = sDrop))
def deedF (w : List Nat) (ws : List (List Nat)) : D := match ws with
  | a :: r => if isWrd w = true then .tup true (.str w :: .str a :: r.map numD) else .tup true (.str w :: (a :: r).map numD)
  | [] => .tup true [.str w]
def deedR (w : List Nat) (ws : List (List Nat)) : D := if deedB (deedF w ws) = true then deedF w ws else .non
theorem deedF_sma {w : List Nat} {ws : List (List Nat)} (hw : w.length ≤ big) (hs : ∀ x ∈ ws, x.length ≤ big) (hl : ws.length ≤ 14000) : Sma (deedF w ws) := by
  have hn : ∀ x ∈ ws.map numD, Sma x := fun x hx => by
    obtain ⟨y, _, rfl⟩ := List.mem_map.mp hx
    exact isno_sma (numD_form y)
  unfold deedF
  split
  · rename_i a r
    split
    · simp only [Sma, Smas, List.length_cons, List.length_map]
      refine ⟨⟨hw, hs a (by simp), smas_of fun x hx => hn x (by simp at hx ⊢; exact .inr hx)⟩, by simp at hl; omega⟩
    · simp only [Sma, Smas, List.map_cons, List.length_cons, List.length_map]
      refine ⟨⟨hw, hn _ (by simp), smas_of fun x hx => hn x (by simp at hx ⊢; exact .inr hx)⟩, by simp at hl; omega⟩
  · simp only [Sma, Smas, List.length_cons, List.length_nil]
    exact ⟨⟨hw, trivial⟩, by omega⟩
section
variable {S : Sto} {n : Nat} {d : D} {t : Tyn}
theorem v_deed_in {p : Po} {k : Nat} {w : List Nat} {ws : List (List Nat)} (hp : S.get p = some (.lst k ((w :: ws).map .str))) (hw : w.length ≤ big) (hs : ∀ x ∈ ws, x.length ≤ big) (ha : ∀ w ∈ ws, ∀ a ∈ w, a < 128) (hl : ws.length ≤ 14000) :
    Fv (cal (n + 5)) 164 [.obj p] S (deedR w ws) := by
  refine fv_body (c := cal (n + 4)) (fun _ _ => rfl) ?_
  intro S1 l
  have l3 := le_add (o := .lst 0 (ws.map .str)) l.wf
  -- the star
  have r1 : sSet (gStar [gN 1] (gN 2)) (eVar 0) (cal (n + 4)) (List.map some [D.obj p] ++ List.replicate (6 - [D.obj p].length) none) S1 = .nx [some (.obj p), some (.str w), some (.obj S1.nx), none, none, none] (S1.add (.lst 0 (ws.map .str))) := by
    unfold sSet eVar
    show (match gStar [gN 1] (gN 2) (.obj p) [some (.obj p), none, none, none, none, none] S1 with | some (env1, S2) => Rt.nx env1 S2 | none => .no) = _
    have hb : (Nat.ble 1 ((w :: ws).map D.str).length && Nat.ble ((w :: ws).map D.str).length 16000) = true := by
      rw [List.length_map, List.length_cons, Nat.ble_eq_true_of_le (by omega), Nat.ble_eq_true_of_le (by omega)]; rfl
    have hg : gStar [gN 1] (gN 2) (.obj p) [some (.obj p), none, none, none, none, none] S1 = some ([some (.obj p), some (.str w), some (.obj S1.nx), none, none, none], S1.add (.lst 0 (ws.map .str))) := by
      unfold gStar
      rw [seqD_lst (l.get hp)]
      show (match (Nat.ble 1 ((w :: ws).map D.str).length && Nat.ble ((w :: ws).map D.str).length 16000) with | true => _ | false => none) = _
      rw [hb]
      show (match mkO (.lst 0 (ws.map .str)) S1 with | .ok l S1 => gSeq [gN 1, gN 2] [.str w, l] _ S1 | _ => none) = _
      rw [mkO_eq l.wf]
      rfl
    rw [hg]
  have l4 := l.trans l3
  generalize hS2 : S1.add (.lst 0 (ws.map .str)) = S2 at r1 l3 l4
  have g2 : S2.get S1.nx = some (.lst 0 (ws.map .str)) := by rw [← hS2]; exact add_get
  suffices hh : Ps (cal (n + 4)) [some (.obj p), some (.str w), some (.obj S1.nx), none, none, none] S2 _ (.rt (deedR w ws)) by
    obtain ⟨S3, e3, l5⟩ := hh S2 (.refl l3.wf)
    exact ⟨S3, (sSeq_run r1).trans e3, l3.trans l5⟩
  generalize S1.nx = p2 at g2 ⊢
  refine ps_setl (pl_lc (f := fun x => numD (match x with | .str a => a | _ => [])) (pi_obj (pv_var rfl) fun S3 l3 => seqD_lst (l3.get g2)) (fun x hx => ?_) (by rw [List.length_map]; unfold big; omega)) fun p3 S3 l3 g3 n3 => ?_
  · obtain ⟨a, h1, rfl⟩ := List.mem_map.mp hx
    exact ⟨_, fun _ => rfl, pv_call (pa_c (pv_var rfl) pa_n) (v_number_in (n := n + 2) (hs a h1))⟩
  · rw [List.map_map] at g3
    have g2' := l3.get g2
    have tst : Pt (cal (n + 4)) [some (.obj p), some (.str w), some (.obj p2), some (.obj p3), none, none] S3 (tAnd' (tOf (eBin dIn (eVar 1) (eTup (aCons (eC (.str [112, 117, 116])) (aCons (eC (.str [97, 100, 100])) (aCons (eC (.str [100, 114, 111, 112])) aNil)))))) (tOf (eBin dNe (eVar 2) (eLst aNil)))) (isWrd w && !ws.isEmpty) := by
      refine Pt.to (pt_and (pt_of (pv_bin (pv_var rfl) (pv_tup (pa_c pv_c (pa_c pv_c (pa_c pv_c pa_n))) (of_decide_eq_true rfl)) fun _ => in_three)) fun _ => pt_of (pv_nenil (pv_var rfl) g2' (gd_strs ha) dep_strs)) ?_
      rw [List.isEmpty_map]
      rfl
    have hF : Sma (deedF w ws) := deedF_sma hw hs hl
    have fin : ∀ o, Ps (cal (n + 4)) [some (.obj p), some (.str w), some (.obj p2), some (.obj p3), o, some (deedF w ws)] S3 (sSeq (sRet (eIf (tOf (eCall 19 [] (aCons (eVar 5) aNil))) (eVar 5) (eC .non))) sNil) (.rt (deedR w ws)) := fun o => by
      refine ps_fin (pv_if (pt_of (pv_call (pa_c (pv_var rfl) pa_n) (v_is_deed (n := n) hF.lk fun _ _ _ => hF))) (fun hk => ?_) fun hk => ?_)
      · exact Pv.to (pv_var rfl) (by unfold deedR; rw [if_pos hk])
      · exact pv_c.to (by unfold deedR; rw [if_neg (by rw [hk]; exact Bool.false_ne_true)])
    refine ps_iff tst (fun hk => ?_) fun hk => ?_
    · rw [Bool.and_eq_true] at hk
      match ws, hk, g2', g3, fin, hl with
      | [], hk, _, _, _, _ => cases hk.2
      | a :: r, hk, g2', g3, fin, hl =>
        have e : deedF w (a :: r) = .tup true ([.str w, .str a] ++ (r.map numD)) := by
          show (if isWrd w = true then _ else _) = _
          rw [if_pos hk.1]; rfl
        refine ps_seq (env1 := [some (.obj p), some (.str w), some (.obj p2), some (.obj p3), none, some (deedF w (a :: r))]) (ps_seq (ps_set (pv_bin (pv_tup (pa_c (pv_var rfl) (pa_c (pv_binS (pv_var rfl) pv_c fun S4 l4 => ix_l (l4.get g2') rfl) pa_n)) (of_decide_eq_true rfl)) (pv_tupl (pl_sl (pv_var rfl) (po_part pv_c) po_no (seqD_lst g3) fun S4 l4 => seqD_lst (l4.get g3)))
          fun _ => add_t ?_) fun _ => ?_) ps_nil) (fin _)
        · rw [cut1]
          simp only [List.map_cons, List.drop_succ_cons, List.drop_zero, List.length_map, List.length_cons, List.length_nil]
          simp only [List.length_cons] at hl
          unfold big
          omega
        · rw [cut1, e]
          simp only [List.map_cons, List.drop_succ_cons, List.drop_zero]
          rfl
    · have e : deedF w ws = .tup true ([.str w] ++ (ws.map numD)) := by
        cases ws with
        | nil => rfl
        | cons a r =>
          show (if isWrd w = true then _ else _) = _
          rw [if_neg (by intro z; rw [z] at hk; cases hk)]; rfl
      refine ps_seq (env1 := [some (.obj p), some (.str w), some (.obj p2), some (.obj p3), none, some (deedF w ws)]) (ps_seq (ps_set (pv_bin (pv_tup (pa_c (pv_var rfl) pa_n) (of_decide_eq_true rfl)) (pv_bS (pa_c (pv_var rfl) pa_n) (d := .tup true (ws.map numD)) fun S4 l4 => ?_) fun _ => add_t ?_) fun _ => ?_) ps_nil) (fin _)
      · show (match seqD (.obj p3) S4 with | some xs => Rs.ok (D.tup true xs) S4 | none => .no) = _
        rw [seqD_lst (l4.get g3)]
        rfl
      · rw [List.length_map]; unfold big; simp only [List.length_cons, List.length_nil]; omega
      · rw [e]; rfl
end
end Ev
set_option Elab.async false
set_option linter.all false
set_option maxRecDepth 100000
set_option maxHeartbeats 0
namespace Ev
open PySem
local macro_rules
  | `(tactic| nofun) => `(tactic| first
    | exact pv_var rfl
    | exact pv_c
    | exact pa_n
    | exact pt_yes
    | exact po_no
    | assumption
    | (with_reducible apply po_part
       nofun)
    | (with_reducible apply pa_c
       · nofun
       · nofun)
    | (with_reducible apply pt_of
       nofun)
    | (with_reducible apply pt_not
       nofun)
    | (with_reducible apply pt_or_t
       with_reducible apply Pt.to
       · nofun
       · first | rfl | (simp [*]; done))
    | (with_reducible apply pt_or
       · nofun
       · (intro _
          nofun))
    | (with_reducible apply pt_and_f
       with_reducible apply Pt.to
       · nofun
       · first | rfl | (simp [*]; done))
    | (with_reducible apply pt_and
       · nofun
       · (intro _
          nofun))
    | (with_reducible apply pv_and_f
       with_reducible apply Pv.to
       · nofun
       · first | rfl | (simp [*]; done))
    | (with_reducible apply pv_and
       · nofun
       · (intro _
          nofun))
    | (with_reducible apply pv_or_t
       with_reducible apply Pv.to
       · nofun
       · first | rfl | (simp [*]; done))
    | (with_reducible apply pv_or
       · nofun
       · (intro _
          nofun))
    | (with_reducible apply pv_not
       nofun)
    | (with_reducible apply pv_neg
       nofun)
    | (with_reducible apply pv_is
       · nofun
       · first | exact tys_of rfl | assumption)
    | (with_reducible apply pv_tup
       · nofun
       · exact of_decide_eq_true rfl)
    | (with_reducible apply pl_lst
       · nofun
       · exact of_decide_eq_true rfl)
    | (with_reducible apply pv_call
       · nofun
       · assumption)
    | (with_reducible apply pl_call
       · nofun
       · assumption)
    | (with_reducible apply pv_callK
       · nofun
       · nofun
       · assumption)
    | (with_reducible apply pv_b
       · nofun
       · first | exact fun _ => len_t | exact fun _ => len_s (by assumption) | exact fun _ => rfl)
    | (with_reducible apply pv_bS
       · nofun
       · exact fun _ l => len_l (l.get (by assumption)))
    | (with_reducible apply pv_bin
       · nofun
       · nofun
       · first | exact fun _ => le_i | exact fun _ => lt_i | exact fun _ => gt_i | exact fun _ => ge_i | exact fun _ => eq_i | exact fun _ => ne_i | exact fun _ => eq_s | exact fun _ => ne_s | exact fun _ => in_two | exact fun _ => ix_t rfl | exact fun _ => rfl)
    | (with_reducible apply pv_binS
       · nofun
       · nofun
       · exact fun _ l => ix_l (l.get (by assumption)) rfl)
    | (with_reducible apply pv_chain
       · nofun
       · nofun
       · exact fun _ => le_i
       · (intro _
          nofun)
       · exact fun _ _ => le_i)
    | (with_reducible apply pv_bm
       · nofun
       · nofun
       · exact fun _ => rfl
       · exact fun _ => rfl)
    | (with_reducible apply pv_tupl
       nofun))

/-! ### a text split -/
theorem spl_ne (s : List Nat) : ∀ (l acc : List Nat) (k : Nat), TL.spl s k acc l ≠ []
  | [], acc, k => by rw [TL.spl_nil]; simp
  | c :: r, acc, 0 => by
    unfold TL.spl
    split
    · simp
    · exact spl_ne s r _ _
  | c :: r, acc, k + 1 => by
    unfold TL.spl
    exact spl_ne s r _ _
theorem spl_mem (s : List Nat) : ∀ (l acc : List Nat) (k : Nat) (p : List Nat), p ∈ TL.spl s k acc l → p.length ≤ acc.length + l.length ∧ ∀ a ∈ p, a ∈ acc ∨ a ∈ l
  | [], acc, k, p, h => by
    rw [TL.spl_nil, List.mem_singleton] at h
    subst h
    exact ⟨by simp, fun a ha => .inl ha⟩
  | c :: r, acc, 0, p, h => by
    unfold TL.spl at h
    split at h
    · rcases List.mem_cons.mp h with rfl | h
      · exact ⟨by simp, fun a ha => .inl ha⟩
      · have := spl_mem s r [] _ p h
        refine ⟨by simp at this ⊢; omega, fun a ha => ?_⟩
        rcases this.2 a ha with z | z
        · cases z
        · exact .inr (List.mem_cons_of_mem _ z)
    · have := spl_mem s r _ _ p h
      refine ⟨by simp at this ⊢; omega, fun a ha => ?_⟩
      rcases this.2 a ha with z | z
      · rcases List.mem_append.mp z with z | z
        · exact .inl z
        · exact .inr (by simp at z; simp [z])
      · exact .inr (List.mem_cons_of_mem _ z)
  | c :: r, acc, k + 1, p, h => by
    unfold TL.spl at h
    have := spl_mem s r _ _ p h
    refine ⟨by simp at this ⊢; omega, fun a ha => ?_⟩
    rcases this.2 a ha with z | z
    · exact .inl z
    · exact .inr (List.mem_cons_of_mem _ z)
theorem spl_len (s : List Nat) : ∀ (l acc : List Nat) (k : Nat), (TL.spl s k acc l).length ≤ l.length + 1
  | [], acc, k => by rw [TL.spl_nil]; simp
  | c :: r, acc, 0 => by
    unfold TL.spl
    split
    · have := spl_len s r [] (s.length - 1)
      simp only [List.length_cons]
      omega
    · have := spl_len s r (acc ++ [c]) 0
      simp only [List.length_cons]
      omega
  | c :: r, acc, k + 1 => by
    unfold TL.spl
    have := spl_len s r acc k
    simp only [List.length_cons]
    omega
theorem par_mem (s : List Nat) : ∀ (l acc p q : List Nat), TL.par s acc l = some (p, q) → (∀ a ∈ p, a ∈ acc ∨ a ∈ l) ∧ ∀ a ∈ q, a ∈ l
  | [], acc, p, q, h => by cases h
  | c :: r, acc, p, q, h => by
    unfold TL.par at h
    split at h
    · cases h
      exact ⟨fun a ha => .inl ha, fun a ha => List.mem_of_mem_drop ha⟩
    · have := par_mem s r (acc ++ [c]) p q h
      refine ⟨fun a ha => ?_, fun a ha => List.mem_cons_of_mem _ (this.2 a ha)⟩
      rcases this.1 a ha with z | z
      · rcases List.mem_append.mp z with z | z
        · exact .inl z
        · exact .inr (by simp at z; simp [z])
      · exact .inr (List.mem_cons_of_mem _ z)
theorem bef_mem {s l : List Nat} {a : Nat} (h : a ∈ bef s l) : a ∈ l := by
  unfold bef at h
  split at h
  · rename_i p q e
    rcases (par_mem s l [] p q e).1 a h with z | z
    · cases z
    · exact z
  · exact h
theorem aft_mem {s l : List Nat} {a : Nat} (h : a ∈ aft s l) : a ∈ l := by
  unfold aft at h
  split at h
  · rename_i p q e
    exact (par_mem s l [] p q e).2 a h
  · cases h
/-! ### asks read -/
def askF (h w : List Nat) (ws : List (List Nat)) : D := .tup true [figD (bef [46] h), figD (aft [46] h), deedR w ws]
def askR (l : List Nat) : List D := if l = [45] then [.non] else match TL.spl [32] 0 [] l with
  | h :: w :: ws => if askB (askF h w ws) = true then [askF h w ws] else []
  | _ => []
theorem deedR_cases (w : List Nat) (ws : List (List Nat)) : deedR w ws = .non ∨ deedB (deedR w ws) = true := by
  unfold deedR
  by_cases h : deedB (deedF w ws) = true
  · rw [if_pos h]; exact .inr h
  · rw [if_neg h]; exact .inl rfl
theorem deedR_sma (w : List Nat) (ws : List (List Nat)) : Sma (deedR w ws) := by
  rcases deedR_cases w ws with h | h
  · rw [h]; simp [Sma]
  · exact deed_sma h
theorem askF_sma (h w : List Nat) (ws : List (List Nat)) : Sma (askF h w ws) := by
  simp only [askF, Sma, Smas, List.length_cons, List.length_nil]
  refine ⟨⟨?_, ?_, deedR_sma _ _, trivial⟩, by omega⟩
  · rcases figD_form (bef [46] h) with z | ⟨m, z⟩ <;> rw [z] <;> simp [Sma]
  · rcases figD_form (aft [46] h) with z | ⟨m, z⟩ <;> rw [z] <;> simp [Sma]
theorem deed_gd {d : D} (h : deedB d = true) : Gd d ∧ depD d ≤ 1 ∧ rsz d ≤ 300 := by
  have hn : ∀ nm, nameB (.str nm) = true → (∀ a ∈ nm, a < 128) ∧ nm.length ≤ 8 := fun nm h => by
    obtain ⟨_, h2, h3⟩ := name_len h
    exact ⟨fun a ha => by have := h3 a ha; omega, h2⟩
  have e2 : (10 : Nat) ^ 31 = 10000000000000000000000000000000 := by decide
  rcases deed_form h with ⟨q, w, nm, i, rfl, hw, hn2, h1, h2⟩ | ⟨q, nm, rfl, hn2⟩ | ⟨q, i, j, rfl, h1, h2, h3, h4, _⟩
  · obtain ⟨a1, a2⟩ := hn nm hn2
    have hw2 : (∀ a ∈ w, a < 128) ∧ w.length = 3 := by rcases hw with rfl | rfl <;> exact ⟨by decide, rfl⟩
    refine ⟨?_, by simp [depD, depDs], ?_⟩
    · simp only [Gd, Gds]
      exact ⟨hw2.1, a1, by rw [e2]; omega, trivial⟩
    · simp only [rsz, rszs]; omega
  · obtain ⟨a1, a2⟩ := hn nm hn2
    refine ⟨?_, by simp [depD, depDs], ?_⟩
    · simp only [Gd, Gds]
      exact ⟨by decide, a1, trivial⟩
    · simp only [rsz, rszs, sDrop, List.length_cons, List.length_nil]; omega
  · refine ⟨?_, by simp [depD, depDs], ?_⟩
    · simp only [Gd, Gds]
      exact ⟨by decide, by rw [e2]; omega, by rw [e2]; omega, trivial⟩
    · simp only [rsz, rszs, sSwap, List.length_cons, List.length_nil]; omega
theorem ask_gd {d : D} (h : AskOk d) : Gd d ∧ depD d ≤ 2 ∧ rsz d ≤ 500 := by
  rcases h with rfl | h
  · exact ⟨trivial, by simp [depD], by simp [rsz]⟩
  · obtain ⟨q, a, s, e, rfl, h1, h2, h3, h4, h5⟩ := ask_form h
    obtain ⟨g1, g2, g3⟩ := deed_gd h5
    have e2 : (10 : Nat) ^ 31 = 10000000000000000000000000000000 := by decide
    refine ⟨?_, ?_, ?_⟩
    · simp only [Gd, Gds]
      exact ⟨by rw [e2]; omega, by rw [e2]; omega, g1, trivial⟩
    · simp only [depD, depDs]; omega
    · simp only [rsz, rszs]; omega
theorem askR_ok {l : List Nat} : ∀ x ∈ askR l, AskOk x := fun x hx => by
  unfold askR at hx
  split at hx
  · simp at hx; exact .inl hx
  · split at hx
    · split at hx
      · rename_i h
        simp at hx; subst hx; exact .inr h
      · cases hx
    · cases hx
theorem askR_one (l : List Nat) : askR l = [] ∨ ∃ k, askR l = [k] := by
  unfold askR
  split
  · exact .inr ⟨_, rfl⟩
  · split
    · split
      · exact .inr ⟨_, rfl⟩
      · exact .inl rfl
    · exact .inl rfl
section
variable {S : Sto} {n : Nat} {d : D} {t : Tyn}
theorem v_ask_in {l : List Nat} (hl : l.length ≤ 13000) (hc : ∀ a ∈ l, a < 128) : Fl (cal (n + 6)) 165 [.str l] S (askR l) := by
  refine fl_body (c := cal (n + 5)) (fun _ _ => rfl) ?_
  refine psl_ifr (pt_of (pv_bin (pv_var rfl) pv_c fun _ => eq_s)) (fun hk => ?_) fun hk => ?_
  · refine (pl_lst (pa_c pv_c pa_n) (of_decide_eq_true rfl)).to ?_
    unfold askR; rw [if_pos (of_decide_eq_true hk)]
  · have hne : l ≠ [45] := of_decide_eq_false hk
    have sm := spl_mem [32] l [] 0
    have sl := spl_len [32] l [] 0
    have sn := spl_ne [32] l [] 0
    have hR : askR l = match TL.spl [32] 0 [] l with
      | h :: w :: ws => if askB (askF h w ws) = true then [askF h w ws] else []
      | _ => [] := by unfold askR; rw [if_neg hne]
    rw [hR]
    have hsp : Pl (cal (n + 5)) (List.map some [D.str l] ++ List.replicate (4 - [D.str l].length) none) S (eBM isStrD mSplit (eVar 0) (aCons (eC (.str [32])) aNil)) ((TL.spl [32] 0 [] l).map .str) := pl_split (pv_var rfl) pv_c rfl rfl (by unfold big; omega)
    generalize TL.spl [32] 0 [] l = pcs at sm sl sn hsp
    cases pcs with
    | nil => exact absurd rfl sn
    | cons h rest =>
      intro S1 k
      -- the star
      obtain ⟨p0, S2, e2, l2, g2, n2⟩ := hsp S1 k
      have l3 := le_add (o := .lst 0 (rest.map .str)) l2.wf
      have hlen : ((h :: rest).map D.str).length ≤ 16000 := by rw [List.length_map]; omega
      have r1 : sSet (gStar [gN 1] (gN 2)) (eBM isStrD mSplit (eVar 0) (aCons (eC (.str [32])) aNil)) (cal (n + 5)) (List.map some [D.str l] ++ List.replicate (4 - [D.str l].length) none) S1 = .nx [some (.str l), some (.str h), some (.obj S2.nx), none] (S2.add (.lst 0 (rest.map .str))) := by
        unfold sSet
        rw [e2]
        have hb : (Nat.ble 1 ((h :: rest).map D.str).length && Nat.ble ((h :: rest).map D.str).length 16000) = true := by
          rw [Nat.ble_eq_true_of_le hlen, List.length_map, List.length_cons, Nat.ble_eq_true_of_le (by omega)]; rfl
        have hg : gStar [gN 1] (gN 2) (.obj p0) [some (.str l), none, none, none] S2 = some ([some (.str l), some (.str h), some (.obj S2.nx), none], S2.add (.lst 0 (rest.map .str))) := by
          unfold gStar
          rw [seqD_lst g2]
          show (match (Nat.ble 1 ((h :: rest).map D.str).length && Nat.ble ((h :: rest).map D.str).length 16000) with | true => _ | false => none) = _
          rw [hb]
          show (match mkO (.lst 0 (rest.map .str)) S2 with | .ok l S1 => gSeq [gN 1, gN 2] [.str h, l] _ S1 | _ => none) = _
          rw [mkO_eq l2.wf]
          rfl
        show (match gStar [gN 1] (gN 2) (.obj p0) [some (.str l), none, none, none] S2 with | some (env1, S2) => Rt.nx env1 S2 | none => .no) = _
        rw [hg]
      have k4 : Le S1 (S2.add (.lst 0 (rest.map .str))) := l2.trans l3
      generalize hS3 : S2.add (.lst 0 (rest.map .str)) = S3 at r1 k4
      have g3 : S3.get S2.nx = some (.lst 0 (rest.map .str)) := by rw [← hS3]; exact add_get
      have hc2 : ∀ w ∈ rest, ∀ a ∈ w, a < 128 := fun w hw a ha => by
        rcases (sm w (List.mem_cons_of_mem _ hw)).2 a ha with z | z
        · cases z
        · exact hc a z
      have hh : ∀ p, S3.get p = some (.lst 0 (rest.map .str)) → Psl (cal (n + 5)) [some (.str l), some (.str h), some (.obj p), none] S3 (sSeq (sIf (tOf (eBin dEq (eVar 2) (eLst aNil))) (sSeq (sRet (eLst aNil)) sNil) sNil) (sSeq (sSet (gN 3) (eBin dAdd (eCall 162 [] (aCons (eVar 1) aNil)) (eTup (aCons (eCall 164 [] (aCons (eVar 2) aNil)) aNil)))) (sSeq (sRet (eIf (tOf (eCall 21 [] (aCons (eVar 3) aNil))) (eLst (aCons (eVar 3) aNil)) (eLst aNil))) sNil)))
          (match h :: rest with
          | h :: w :: ws => if askB (askF h w ws) = true then [askF h w ws] else []
          | _ => []) := fun p gp => by
        refine psl_ifr (pt_of (pv_eqnil (pv_var rfl) gp (gd_strs hc2) dep_strs)) (fun hk => ?_) fun hk => ?_
        · cases rest with
          | nil => exact pl_lst pa_n (of_decide_eq_true rfl)
          | cons _ _ => cases hk
        · cases rest with
          | nil => cases hk
          | cons w ws =>
            have hf := askF_sma h w ws
            refine psl_seq (env1 := [some (.str l), some (.str h), some (.obj p), some (askF h w ws)]) (ps_set (pv_bin (pv_call (pa_c (pv_var rfl) pa_n) (v_two_in (n := n + 3) (by have := (sm h (by simp)).1; simp at this; unfold big; omega))) (pv_tup (pa_c (pv_call (pa_c (pv_var rfl) pa_n) (v_deed_in (n := n) gp (by have := (sm w (by simp)).1; simp at this; unfold big; omega)
              (fun x hx => by have := (sm x (by simp [hx])).1; simp at this; unfold big; omega) (fun x hx a ha => hc2 x (by simp [hx]) a ha) (by simp at sl; omega))) pa_n) (of_decide_eq_true rfl)) fun _ => add_t (of_decide_eq_true rfl)) fun _ => rfl) (psl_fin ?_)
            refine pl_if (pt_of (pv_call (pa_c (pv_var rfl) pa_n) (v_is_ask (n := n) hf.lk fun _ _ _ => hf))) (fun hk => ?_) fun hk => ?_
            · exact (pl_lst (pa_c (pv_var rfl) pa_n) (of_decide_eq_true rfl)).to (by dsimp only; rw [if_pos hk])
            · exact (pl_lst pa_n (of_decide_eq_true rfl)).to (by dsimp only; rw [if_neg (by rw [hk]; exact Bool.false_ne_true)])
      obtain ⟨p, S4, e4, l4, g4, n4⟩ := hh _ g3 S3 (.refl k4.wf)
      exact ⟨p, S4, (sSeq_run r1).trans e4, k4.trans l4, g4, Nat.le_trans k4.nx n4⟩
theorem v_read_ask {l : List Nat} {k : D} (hl : l.length ≤ 13000) (hc : ∀ a ∈ l, a < 128) (hk : askR l = [k]) : Fv (cal (n + 7)) 166 [.str l] S k := by
  refine fv_body (c := cal (n + 6)) (fun _ _ => rfl) ?_
  have hg := askR_ok (l := l)
  refine ps_setl (pl_if (k := true) (pt_of (Pv.to (pv_is (t := .str) (pv_var rfl) (tys_of rfl)) rfl)) (fun _ => pl_call (pa_c (pv_var rfl) pa_n) (v_ask_in (n := n) hl hc)) fun h => by cases h) fun p S1 l1 g1 n1 => ?_
  refine ps_ifn (pt_of (pv_eqnil (pv_var rfl) g1 (fun x hx => (ask_gd (hg x hx)).1) fun x hx => by have := (ask_gd (hg x hx)).2.1; omega)) (fun h => by rw [hk] at h; cases h) fun _ => ps_fin ?_
  exact pv_binS (pv_var rfl) pv_c fun S2 l2 => ix_l (l2.get g1) (by rw [hk]; rfl)
/-! rows read -/
def dorR (l : List Nat) : D := match askR (aft [32] l) with
  | k :: _ => if (frmB 0 1000000000 (figD (bef [46] (bef [32] l))) && frmB 0 29 (figD (aft [46] (bef [32] l)))) = true then .tup true [figD (bef [46] (bef [32] l)), figD (aft [46] (bef [32] l)), k] else .non
  | [] => .non
theorem figD_lk (l : List Nat) : Lk S (figD l) := by
  rcases figD_form l with z | ⟨m, z⟩ <;> rw [z] <;> exact ⟨_, tys_of rfl⟩
theorem v_deed_of_row {l : List Nat} (hl : l.length ≤ 13000) (hc : ∀ a ∈ l, a < 128) : Fv (cal (n + 7)) 167 [.str l] S (dorR l) := by
  refine fv_body (c := cal (n + 6)) (fun _ _ => rfl) ?_
  have hb := bef_len [32] l
  have ha := aft_len [32] l
  have hg := askR_ok (l := aft [32] l)
  refine ps_seq (ps_set (pv_bm (pv_var rfl) (pa_c pv_c pa_n) (fun _ => rfl) fun _ => part_s rfl (by unfold big; omega)) fun _ => rfl) (ps_seq (ps_set (pv_call (pa_c (pv_var rfl) pa_n) (v_two_in (n := n + 4) (by unfold big; omega))) fun _ => rfl) ?_)
  refine ps_setl (pl_call (pa_c (pv_var rfl) pa_n) (v_ask_in (n := n) (by omega) fun a h => hc a (aft_mem h))) fun p S1 l1 g1 n1 => ?_
  refine ps_ifr (pt_or (pt_not (pt_of (pv_call (pa_c (pv_var rfl) pa_n) (v_is_from (n := n + 4) (figD_lk _))))) fun _ => pt_or (pt_not (pt_of (pv_callK (pa_c (pv_var rfl) pa_n) (pa_c pv_c pa_n) (v_is_from (n := n + 4) (lo := 0) (hi := 29) (figD_lk _))))) fun _ =>
    pt_of (pv_eqnil (pv_var rfl) g1 (fun x hx => (ask_gd (hg x hx)).1) fun x hx => by have := (ask_gd (hg x hx)).2.1; omega)) (fun hk => ?_) fun hk => ?_
  · refine pv_c.to ?_
    unfold dorR
    rcases askR_one (aft [32] l) with z | ⟨k, z⟩
    · rw [z]
    · rw [z] at hk ⊢
      dsimp only
      rw [if_neg]
      intro h
      rw [Bool.and_eq_true] at h
      rw [h.1, h.2] at hk
      cases hk
  · rcases askR_one (aft [32] l) with z | ⟨k, z⟩
    · rw [z] at hk
      simp at hk
    · refine ps_fin (Pv.to (pv_tup (pa_c (pv_var rfl) (pa_c (pv_var rfl) (pa_c (pv_binS (pv_var rfl) pv_c fun S2 l2 => ix_l (l2.get g1) (by rw [z]; rfl)) pa_n))) (of_decide_eq_true rfl)) ?_)
      unfold dorR
      rw [z] at hk ⊢
      dsimp only
      rw [if_pos]
      rw [Bool.and_eq_true]
      simp at hk
      exact ⟨hk.1, hk.2⟩
end
end Ev
set_option Elab.async false
set_option linter.all false
set_option maxRecDepth 100000
set_option maxHeartbeats 0
namespace Ev
open PySem
local macro_rules
  | `(tactic| nofun) => `(tactic| first
    | exact pv_var rfl
    | exact pv_c
    | exact pa_n
    | exact pt_yes
    | exact po_no
    | assumption
    | (with_reducible apply po_part
       nofun)
    | (with_reducible apply pa_c
       · nofun
       · nofun)
    | (with_reducible apply pt_of
       nofun)
    | (with_reducible apply pt_not
       nofun)
    | (with_reducible apply pt_or_t
       with_reducible apply Pt.to
       · nofun
       · first | rfl | (simp [*]; done))
    | (with_reducible apply pt_or
       · nofun
       · (intro _
          nofun))
    | (with_reducible apply pt_and_f
       with_reducible apply Pt.to
       · nofun
       · first | rfl | (simp [*]; done))
    | (with_reducible apply pt_and
       · nofun
       · (intro _
          nofun))
    | (with_reducible apply pv_and_f
       with_reducible apply Pv.to
       · nofun
       · first | rfl | (simp [*]; done))
    | (with_reducible apply pv_and
       · nofun
       · (intro _
          nofun))
    | (with_reducible apply pv_or_t
       with_reducible apply Pv.to
       · nofun
       · first | rfl | (simp [*]; done))
    | (with_reducible apply pv_or
       · nofun
       · (intro _
          nofun))
    | (with_reducible apply pv_not
       nofun)
    | (with_reducible apply pv_neg
       nofun)
    | (with_reducible apply pv_is
       · nofun
       · first | exact tys_of rfl | assumption)
    | (with_reducible apply pv_tup
       · nofun
       · exact of_decide_eq_true rfl)
    | (with_reducible apply pl_lst
       · nofun
       · exact of_decide_eq_true rfl)
    | (with_reducible apply pv_call
       · nofun
       · assumption)
    | (with_reducible apply pl_call
       · nofun
       · assumption)
    | (with_reducible apply pv_callK
       · nofun
       · nofun
       · assumption)
    | (with_reducible apply pv_b
       · nofun
       · first | exact fun _ => len_t | exact fun _ => len_s (by assumption) | exact fun _ => rfl)
    | (with_reducible apply pv_bS
       · nofun
       · exact fun _ l => len_l (l.get (by assumption)))
    | (with_reducible apply pv_bin
       · nofun
       · nofun
       · first | exact fun _ => le_i | exact fun _ => lt_i | exact fun _ => gt_i | exact fun _ => ge_i | exact fun _ => eq_i | exact fun _ => ne_i | exact fun _ => eq_s | exact fun _ => ne_s | exact fun _ => in_two | exact fun _ => ix_t rfl | exact fun _ => rfl)
    | (with_reducible apply pv_binS
       · nofun
       · nofun
       · exact fun _ l => ix_l (l.get (by assumption)) rfl)
    | (with_reducible apply pv_chain
       · nofun
       · nofun
       · exact fun _ => le_i
       · (intro _
          nofun)
       · exact fun _ _ => le_i)
    | (with_reducible apply pv_bm
       · nofun
       · nofun
       · exact fun _ => rfl
       · exact fun _ => rfl)
    | (with_reducible apply pv_tupl
       nofun))

def linesR (l : List Nat) : List (List Nat) := if l = [] then [] else TL.spl [10] 0 [] l
def ltR : D → D → Bool
  | .tup _ [.int a, .int b, _], .tup _ [.int c, .int d, _] => decide (a < c) || (decide (a = c) && decide (b < d))
  | _, _ => false
theorem linesR_mem {l p : List Nat} (h : p ∈ linesR l) : p.length ≤ l.length ∧ ∀ a ∈ p, a ∈ l := by
  unfold linesR at h
  split at h
  · cases h
  · have := spl_mem [10] l [] 0 p h
    refine ⟨by simpa using this.1, fun a ha => ?_⟩
    rcases this.2 a ha with z | z
    · cases z
    · exact z
theorem linesR_len (l : List Nat) : (linesR l).length ≤ l.length + 1 := by
  unfold linesR
  split
  · simp
  · exact spl_len _ _ _ _
theorem row_gd {r : D} (h : RowOk r) : Gd r ∧ depD r ≤ 3 ∧ rsz r ≤ 700 := by
  obtain ⟨q, a, b, k, rfl, h1, h2, h3, h4, h5⟩ := h
  obtain ⟨g1, g2, g3⟩ := ask_gd h5
  have e2 : (10 : Nat) ^ 31 = 10000000000000000000000000000000 := by decide
  refine ⟨?_, ?_, ?_⟩
  · simp only [Gd, Gds]
    exact ⟨by rw [e2]; omega, by rw [e2]; omega, g1, trivial⟩
  · simp only [depD, depDs]; omega
  · simp only [rsz, rszs]; omega
theorem enmL_get {xs : List D} {i : Nat} (h : i < xs.length) (h2 : i < (enmL xs).length) : (enmL xs)[i] = .tup true [.int (.ofNat i), xs[i]] := by
  unfold enmL
  simp [List.getElem?_eq_getElem h]
theorem enmL_len (xs : List D) : (enmL xs).length = xs.length := by unfold enmL; simp
theorem at_enm {p : Po} {xs : List D} {S : Sto} {i : Nat} (h : seqD (.obj p) S = some xs) (w : Wf S) : Iz.at (.enm p) i S = some (enmL xs)[i]? := by
  unfold Iz.at enmL
  dsimp only
  rw [h, List.getElem?_map]
  dsimp only
  by_cases hi : i < xs.length
  · rw [List.getElem?_range hi, List.getElem?_eq_getElem hi]; simp [List.getElem?_eq_getElem hi]
  · rw [List.getElem?_eq_none (by simpa using hi), List.getElem?_eq_none (by simpa using hi)]; rfl
/-- a list that is grown: new since S0, these stand in it now -/
structure Acc (S0 : Sto) (p : Po) (xs : List D) (S : Sto) : Prop where
  le : Le S0 S
  new : S0.nx.ix ≤ p.ix
  at_ : S.get p = some (.lst 0 xs)
theorem Acc.mono {S0 S S' : Sto} {p : Po} {xs : List D} (h : Acc S0 p xs S) (l : Le S S') : Acc S0 p xs S' := ⟨h.le.trans l, h.new, l.get h.at_⟩
theorem Acc.push {S0 S : Sto} {p : Po} {xs ys : List D} (h : Acc S0 p xs S) : Acc S0 p ys (S.put p (.lst 0 ys)) := ⟨h.le.put h.at_ h.new, h.new, Sto.put_same⟩
theorem run_new {c : Cal} {env : Slots} {S : Sto} {i : Nat} (w : Wf S) : sSet (gN i) (eLst aNil) c env S = .nx (env.set i (some (.obj S.nx))) (S.add (.lst 0 [])) := by
  show Rs.bindS (mkO (.lst 0 []) S) _ _ = _
  rw [mkO_eq w]
  rfl
theorem run_setl {c : Cal} {env : Slots} {S S1 : Sto} {i : Nat} {e : Ev} {p : Po} (he : e c env S = .ok (.obj p) S1) : sSet (gN i) e c env S = .nx (env.set i (some (.obj p))) S1 := by
  unfold sSet; rw [he]; rfl
theorem run_for {c : Cal} {env : Slots} {S S1 : Sto} {g : Gv} {it : Iv} {b : Sv} {z : Iz} (h : it c env S = .ok z S1) : sFor g it b c env S = forF z g b c (z.fuel S1) 0 env S1 := by
  unfold sFor; rw [h]; rfl
section
variable {S : Sto} {n : Nat} {d : D} {t : Tyn}
theorem cut2 {w : Bool} {a b k : D} {S : Sto} : dCut (.tup w [a, b, k]) none (some 2) S = .ok (.tup true [a, b]) S := rfl
theorem v_read_row {l : List Nat} (hl : l.length ≤ 13000) (hc : ∀ a ∈ l, a < 128) (hr : ∀ p ∈ linesR l, RowOk (dorR p)) (hs : ∀ i a b, (linesR l)[i]? = some a → (linesR l)[i + 1]? = some b → ltR (dorR a) (dorR b) = true) : Fl (cal (n + 8)) 168 [.str l] S ((linesR l).map dorR) := by
  refine fl_body (c := cal (n + 7)) (fun _ _ => rfl) ?_
  refine psl_ifn (Pt.to (pt_not (pt_of (pv_is (t := .str) (pv_var rfl) (tys_of rfl)))) rfl) (fun h => by cases h) fun _ => ?_
  intro S1 l1
  have l2 := le_add (o := .lst 0 []) l1.wf
  have hsp : Pl (cal (n + 7)) [some (.str l), some (.obj S1.nx), none, none, none, none] S (eIf (tOf (eBin dNe (eVar 0) (eC (.str [])))) (eBM isStrD mSplit (eVar 0) (aCons (eC (.str [10])) aNil)) (eLst aNil)) ((linesR l).map .str) := by
    refine pl_if (pt_of (pv_bin (pv_var rfl) pv_c fun _ => ne_s)) (fun hk => ?_) fun hk => ?_
    · have hne : l ≠ [] := by simpa using hk
      refine (pl_split (pv_var rfl) pv_c rfl rfl (by unfold big; omega)).to ?_
      unfold linesR; rw [if_neg hne]
    · have hne : l = [] := by simpa using hk
      refine (pl_lst pa_n (of_decide_eq_true rfl)).to ?_
      unfold linesR; rw [if_pos hne]; rfl
  obtain ⟨p2, S3, e3, l3, g3, n3⟩ := hsp _ (l1.trans l2)
  have hlen := linesR_len l
  have hm : ∀ p ∈ linesR l, p.length ≤ l.length ∧ ∀ a ∈ p, a ∈ l := fun p hp => linesR_mem hp
  generalize linesR l = ls at hr hs g3 hlen hm ⊢
  have a3 : Acc S1 S1.nx [] S3 := ⟨l2.trans l3, Nat.le_refl _, l3.get add_get⟩
  have ne12 : p2 ≠ S1.nx := fun e => by rw [e, add_nx] at n3; omega
  generalize hp1 : S1.nx = p1 at a3 ne12
  let I : Nat → Slots → Sto → Prop := fun i env S' => (∃ o3 o4 o5, env = [some (.str l), some (.obj p1), some (.obj p2), o3, o4, o5]) ∧ Acc S1 p1 ((ls.map dorR).take i) S' ∧ S'.get p2 = some (.lst 0 (ls.map .str))
  have hlm : (enmL (ls.map D.str)).length = ls.length := by rw [enmL_len, List.length_map]
  have key := for_inv (c := cal (n + 7)) (z := .enm p2) (g := gT [(gN 3), (gN 4)]) (b := (sSeq (sSet (gN 5) (eCall 167 [] (aCons (eVar 4) aNil)))
 (sSeq (sIf (tOr' (tOf (eBin dIs (eVar 5) (eC .non))) (tAnd' (tOf (eBin dNe (eVar 1) (eLst aNil))) (tOf (eBin dLeT (eSl (eVar 5) oNo (oPart (eC (.int (2))))) (eSl (eBin dSub' (eVar 1) (eNeg (eC (.int (1))))) oNo (oPart (eC (.int (2)))))))))
 (sSeq sNo
 sNil)
 sNil)
 (sSeq (sX (eBM isLstD mAppend (eVar 1) (aCons (eVar 5) aNil)))
 sNil)))) (xs := enmL (ls.map .str)) I (fun _ => False) (fun i env S' h => at_enm (seqD_lst h.2.2) h.2.1.le.wf) (fun i hi env S' hI => ?_) (Iz.fuel (.enm p2) S3) 0 [some (.str l), some (.obj p1), some (.obj p2), none, none, none] S3 ⟨⟨_, _, _, rfl⟩, a3, g3⟩ ?_ (Nat.zero_le _)
  · rcases key with ⟨env2, S4, e4, ⟨o3, o4, o5, rfl⟩, a4, _⟩ | ⟨h, _⟩
    · rw [hlm, List.take_of_length_le (by rw [List.length_map]; exact Nat.le_refl _)] at a4
      refine ⟨p1, S4, ?_, a4.le, a4.at_, by rw [← hp1]; exact Nat.le_refl _⟩
      have rf : iEnm (aCons (eVar 2) aNil) (cal (n + 7)) [some (.str l), some (.obj p1), some (.obj p2), none, none, none] S3 = .ok (.enm p2) S3 := by
        show (match seqD (.obj p2) S3 with | some _ => Rs.ok (Iz.enm p2) S3 | none => .no) = _
        rw [seqD_lst g3]
      refine (sSeq_run (run_new l1.wf)).trans ((sSeq_run (run_setl (p := p2) (S1 := S3) e3)).trans ((sSeq_run ((run_for (z := .enm p2) (S1 := S3) ?_).trans (?_ : _ = Rt.nx [some (.str l), some (.obj p1), some (.obj p2), o3, o4, o5] S4))).trans rfl))
      · rw [hp1]; exact rf
      · rw [hp1]; exact e4
    · exact h.elim
  · obtain ⟨⟨o3, o4, o5, rfl⟩, a4, h2⟩ := hI
    have hi2 : i < ls.length := by rw [hlm] at hi; exact hi
    have hx : (enmL (ls.map D.str))[i] = .tup true [.int (.ofNat i), .str ls[i]] := by
      rw [enmL_get (by rw [List.length_map]; exact hi2)]
      rw [List.getElem_map]
    refine ⟨[some (.str l), some (.obj p1), some (.obj p2), some (.int (.ofNat i)), some (.str ls[i]), o5], S', by rw [hx]; rfl, .inl ?_⟩
    have hmi := hm ls[i] (List.getElem_mem hi2)
    have hri := hr ls[i] (List.getElem_mem hi2)
    obtain ⟨S5, e5, l5⟩ := v_deed_of_row (n := n) (S := S) (l := ls[i]) (by omega) (fun a ha => hc a (hmi.2 a ha)) S' (l1.trans a4.le)
    have a5 := a4.mono l5
    have h5 := l5.get h2
    obtain ⟨q, a, b, k, hd, h6, h7, h8, h9, h10⟩ := hri
    have tst : Pt (cal (n + 7)) [some (.str l), some (.obj p1), some (.obj p2), some (.int (.ofNat i)), some (.str ls[i]), some (dorR ls[i])] S5 (tOr' (tOf (eBin dIs (eVar 5) (eC .non))) (tAnd' (tOf (eBin dNe (eVar 1) (eLst aNil))) (tOf (eBin dLeT (eSl (eVar 5) oNo (oPart (eC (.int (2))))) (eSl (eBin dSub' (eVar 1) (eNeg (eC (.int (1))))) oNo (oPart (eC (.int (2))))))))) false := by
      have hn : Pt (cal (n + 7)) [some (.str l), some (.obj p1), some (.obj p2), some (.int (.ofNat i)), some (.str ls[i]), some (dorR ls[i])] S5 (tOf (eBin dNe (eVar 1) (eLst aNil))) (!((ls.map dorR).take i).isEmpty) := by
        refine pt_of (pv_nenil (pv_var rfl) a5.at_ (fun x hx => ?_) fun x hx => ?_)
        · have hx := List.mem_of_mem_take hx
          obtain ⟨p, hp, rfl⟩ := List.mem_map.mp hx
          exact (row_gd (hr p hp)).1
        · have hx := List.mem_of_mem_take hx
          obtain ⟨p, hp, rfl⟩ := List.mem_map.mp hx
          have := (row_gd (hr p hp)).2.1; omega
      refine (pt_or (x := false) (y := false) (pt_of (pv_bin (pv_var rfl) pv_c fun _ => by rw [hd]; rfl)) fun _ => ?_).to rfl
      cases i with
      | zero =>
        exact pt_and_f (hn.to (by simp))
      | succ i =>
        have hri' := hr (ls[i]'(by omega)) (List.getElem_mem _)
        obtain ⟨q', a', b', k', hd', _, _, _, _, _⟩ := hri'
        have hlt := hs i (ls[i]'(by omega)) ls[i + 1] (List.getElem?_eq_getElem (by omega)) (List.getElem?_eq_getElem hi2)
        rw [hd, hd'] at hlt
        have hlt2 : a' < a ∨ (a' = a ∧ b' < b) := by simpa [ltR] using hlt
        have hle : (if a = a' then (if b = b' then true else decide (b ≤ b')) else decide (a ≤ a')) = false := by
          rcases hlt2 with z | ⟨z1, z2⟩
          · rw [if_neg (by omega)]; exact decide_eq_false (by omega)
          · rw [if_pos z1.symm, if_neg (by omega)]; exact decide_eq_false (by omega)
        have p1v : Pv (cal (n + 7)) [some (.str l), some (.obj p1), some (.obj p2), some (.int (.ofNat (i + 1))), some (.str ls[i + 1]), some (dorR ls[i + 1])] S5 (eSl (eVar 5) oNo (oPart (eC (.int (2))))) (.tup true [.int a, .int b]) := by
          rw [hd]
          exact pv_sl (pv_var rfl) po_no (po_part pv_c) fun _ => cut2
        have p2v : Pv (cal (n + 7)) [some (.str l), some (.obj p1), some (.obj p2), some (.int (.ofNat (i + 1))), some (.str ls[i + 1]), some (dorR ls[i + 1])] S5 (eSl (eBin dSub' (eVar 1) (eNeg (eC (.int (1))))) oNo (oPart (eC (.int (2))))) (.tup true [.int a', .int b']) := by
          refine pv_sl (x := .tup q' [.int a', .int b', k']) (pv_binS (pv_var rfl) (pv_neg pv_c) fun S6 l6 => ix_l (l6.get a5.at_) ?_) po_no (po_part pv_c) fun _ => cut2
          have hlen2 : ((ls.map dorR).take (i + 1)).length = i + 1 := by rw [List.length_take, List.length_map]; omega
          show (match Nat.blt 0 ((ls.map dorR).take (i + 1)).length with | true => ((ls.map dorR).take (i + 1))[((ls.map dorR).take (i + 1)).length - 1 - 0]? | false => none) = _
          rw [hlen2]
          show ((ls.map dorR).take (i + 1))[i]? = _
          rw [List.getElem?_take_of_lt (by omega), List.getElem?_map, List.getElem?_eq_getElem (show i < ls.length by omega)]
          exact congrArg some hd'
        have p3v : Pt (cal (n + 7)) [some (.str l), some (.obj p1), some (.obj p2), some (.int (.ofNat (i + 1))), some (.str ls[i + 1]), some (dorR ls[i + 1])] S5 (tOf (eBin dLeT (eSl (eVar 5) oNo (oPart (eC (.int (2))))) (eSl (eBin dSub' (eVar 1) (eNeg (eC (.int (1))))) oNo (oPart (eC (.int (2))))))) false :=
          pt_of (pv_bin p1v p2v fun _ => by rw [← hle]; rfl)
        exact (pt_and hn fun _ => p3v).to (by simp)
    have r1 : sSet (gN 5) (eCall 167 [] (aCons (eVar 4) aNil)) (cal (n + 7)) [some (.str l), some (.obj p1), some (.obj p2), some (.int (.ofNat i)), some (.str ls[i]), o5] S' = .nx [some (.str l), some (.obj p1), some (.obj p2), some (.int (.ofNat i)), some (.str ls[i]), some (dorR ls[i])] S5 := by
      unfold sSet eCall
      show Rs.bindS (cal (n + 7) 167 [.str ls[i]] S') _ _ = _
      rw [e5]; rfl
    obtain ⟨S6, e6, l6⟩ := tst S5 (.refl l5.wf)
    have a6 := a5.mono l6
    have r2 := run_append (c := cal (n + 7)) (env := [some (.str l), some (.obj p1), some (.obj p2), some (.int (.ofNat i)), some (.str ls[i]), some (dorR ls[i])]) (i := 1) (e := eVar 5) (d := dorR ls[i]) rfl a6.at_ (by have := List.length_take_le i (ls.map dorR); unfold big; omega) rfl (.refl l6.wf)
    have r3 : sIf (tOr' (tOf (eBin dIs (eVar 5) (eC .non))) (tAnd' (tOf (eBin dNe (eVar 1) (eLst aNil))) (tOf (eBin dLeT (eSl (eVar 5) oNo (oPart (eC (.int (2))))) (eSl (eBin dSub' (eVar 1) (eNeg (eC (.int (1))))) oNo (oPart (eC (.int (2))))))))) (sSeq sNo sNil) sNil (cal (n + 7)) [some (.str l), some (.obj p1), some (.obj p2), some (.int (.ofNat i)), some (.str ls[i]), some (dorR ls[i])] S5 = .nx [some (.str l), some (.obj p1), some (.obj p2), some (.int (.ofNat i)), some (.str ls[i]), some (dorR ls[i])] S6 := by
      unfold sIf; rw [e6]; rfl
    refine ⟨_, _, .inl ((sSeq_run r1).trans ((sSeq_run r3).trans ((sSeq_run r2).trans rfl))), ⟨_, _, _, rfl⟩, ?_, ?_⟩
    · have e : (ls.map dorR).take i ++ [dorR ls[i]] = (ls.map dorR).take (i + 1) := by
        rw [List.take_succ, List.getElem?_map, List.getElem?_eq_getElem hi2]; rfl
      rw [e]
      exact a6.push
    · rw [Sto.put_ne ne12]; exact l6.get h5
  · show _ < Iz.fuel (.enm p2) S3 + 0
    unfold Iz.fuel
    dsimp only
    rw [seqD_lst g3, hlm]
    show ls.length < (ls.map D.str).length + 1 + 0
    rw [List.length_map]
    omega
end
end Ev
set_option Elab.async false
set_option linter.all false
set_option maxRecDepth 100000
set_option maxHeartbeats 0
namespace Ev
open PySem
local macro_rules
  | `(tactic| nofun) => `(tactic| first
    | exact pv_var rfl
    | exact pv_c
    | exact pa_n
    | exact pt_yes
    | exact po_no
    | assumption
    | (with_reducible apply po_part
       nofun)
    | (with_reducible apply pa_c
       · nofun
       · nofun)
    | (with_reducible apply pt_of
       nofun)
    | (with_reducible apply pt_not
       nofun)
    | (with_reducible apply pt_or_t
       with_reducible apply Pt.to
       · nofun
       · first | rfl | (simp [*]; done))
    | (with_reducible apply pt_or
       · nofun
       · (intro _
          nofun))
    | (with_reducible apply pt_and_f
       with_reducible apply Pt.to
       · nofun
       · first | rfl | (simp [*]; done))
    | (with_reducible apply pt_and
       · nofun
       · (intro _
          nofun))
    | (with_reducible apply pv_and_f
       with_reducible apply Pv.to
       · nofun
       · first | rfl | (simp [*]; done))
    | (with_reducible apply pv_and
       · nofun
       · (intro _
          nofun))
    | (with_reducible apply pv_or_t
       with_reducible apply Pv.to
       · nofun
       · first | rfl | (simp [*]; done))
    | (with_reducible apply pv_or
       · nofun
       · (intro _
          nofun))
    | (with_reducible apply pv_not
       nofun)
    | (with_reducible apply pv_neg
       nofun)
    | (with_reducible apply pv_is
       · nofun
       · first | exact tys_of rfl | assumption)
    | (with_reducible apply pv_tup
       · nofun
       · exact of_decide_eq_true rfl)
    | (with_reducible apply pl_lst
       · nofun
       · exact of_decide_eq_true rfl)
    | (with_reducible apply pv_call
       · nofun
       · assumption)
    | (with_reducible apply pl_call
       · nofun
       · assumption)
    | (with_reducible apply pv_callK
       · nofun
       · nofun
       · assumption)
    | (with_reducible apply pv_b
       · nofun
       · first | exact fun _ => len_t | exact fun _ => len_s (by assumption) | exact fun _ => rfl)
    | (with_reducible apply pv_bS
       · nofun
       · exact fun _ l => len_l (l.get (by assumption)))
    | (with_reducible apply pv_bin
       · nofun
       · nofun
       · first | exact fun _ => le_i | exact fun _ => lt_i | exact fun _ => gt_i | exact fun _ => ge_i | exact fun _ => eq_i | exact fun _ => ne_i | exact fun _ => eq_s | exact fun _ => ne_s | exact fun _ => in_two | exact fun _ => ix_t rfl | exact fun _ => rfl)
    | (with_reducible apply pv_binS
       · nofun
       · nofun
       · exact fun _ l => ix_l (l.get (by assumption)) rfl)
    | (with_reducible apply pv_chain
       · nofun
       · nofun
       · exact fun _ => le_i
       · (intro _
          nofun)
       · exact fun _ _ => le_i)
    | (with_reducible apply pv_bm
       · nofun
       · nofun
       · exact fun _ => rfl
       · exact fun _ => rfl)
    | (with_reducible apply pv_tupl
       nofun))

def entR (w : List Nat) : D := .tup true [.str (bef [61] w), numD (aft [61] w)]
def aneR (w : List Nat) : D := .tup true ([figD (bef [46] (bef [61] w)), figD (aft [46] (bef [61] w))] ++ ansR (aft [61] w))
def orNon (f : D → Bool) (d : D) : D := if f d = true then d else .non
def bokR (ws : List (List Nat)) : D := orNon bookB (.tup true (ws.map entR))
def anR (ws : List (List Nat)) : D := orNon anssB (.tup true (ws.map aneR))
def memR (ws : List (List Nat)) : D := orNon memB (.tup true (ws.map figD))
theorem figD_no (l : List Nat) : IsNo (figD l) := by
  rcases figD_form l with h | ⟨m, h⟩
  · exact .inl h
  · exact .inr ⟨_, h⟩
theorem ansR_ok (l : List Nat) : ansR l = [] ∨ ∃ d, ansR l = [d] ∧ Sma d := by
  unfold ansR
  split
  · rename_i d h
    refine .inr ⟨d, rfl, ?_⟩
    have : tabV kv_201 l = some d := h
    unfold kv_201 tabV at this
    split at this
    · cases this; simp [Sma]
    · unfold tabV at this
      split at this
      · cases this; simp [Sma]
      · unfold tabV at this
        split at this
        · cases this; simp [Sma]
        · cases this
  · split
    · exact .inr ⟨_, rfl, by simp [Sma]⟩
    · exact .inl rfl
theorem entR_sma {w : List Nat} (h : w.length ≤ big) : Sma (entR w) := by
  simp only [entR, Sma, Smas, List.length_cons, List.length_nil]
  exact ⟨⟨Nat.le_trans (bef_len _ _) h, isno_sma (numD_form _), trivial⟩, by omega⟩
theorem aneR_sma {w : List Nat} : Sma (aneR w) := by
  rcases ansR_ok (aft [61] w) with h | ⟨d, h, hd⟩
  · simp only [aneR, h, List.append_nil, Sma, Smas, List.length_cons, List.length_nil]
    exact ⟨⟨isno_sma (figD_no _), isno_sma (figD_no _), trivial⟩, by omega⟩
  · simp only [aneR, h, List.cons_append, List.nil_append, Sma, Smas, List.length_cons, List.length_nil]
    exact ⟨⟨isno_sma (figD_no _), isno_sma (figD_no _), hd, trivial⟩, by omega⟩
theorem tup_sma {ws : List (List Nat)} {f : List Nat → D} (hf : ∀ w ∈ ws, Sma (f w)) (hl : ws.length ≤ 14000) : Sma (.tup true (ws.map f)) := by
  simp only [Sma, List.length_map]
  refine ⟨smas_of fun x hx => ?_, by omega⟩
  obtain ⟨w, hw, rfl⟩ := List.mem_map.mp hx
  exact hf w hw
section
variable {S : Sto} {n : Nat} {d : D} {t : Tyn}
theorem v_entry_in {w : List Nat} (hl : w.length ≤ big) : Fv (cal (n + 3)) 169 [.str w] S (entR w) := by
  refine fv_body (c := cal (n + 2)) (fun _ _ => rfl) (ps_seq (ps_set (pv_bm (pv_var rfl) (pa_c pv_c pa_n) (fun _ => rfl) fun _ => part_s rfl hl) fun _ => rfl) (ps_fin ?_))
  exact pv_tup (pa_c (pv_var rfl) (pa_c (pv_call (pa_c (pv_var rfl) pa_n) (v_number_in (n := n) (Nat.le_trans (aft_len _ _) hl))) pa_n)) (of_decide_eq_true rfl)
theorem v_answer_entry_in {w : List Nat} (hl : w.length ≤ big) : Fv (cal (n + 4)) 170 [.str w] S (aneR w) := by
  refine fv_body (c := cal (n + 3)) (fun _ _ => rfl) (ps_seq (ps_set (pv_bm (pv_var rfl) (pa_c pv_c pa_n) (fun _ => rfl) fun _ => part_s rfl hl) fun _ => rfl) ?_)
  refine ps_setl (pl_call (pa_c (pv_var rfl) pa_n) (v_answer_in (n := n) (Nat.le_trans (aft_len _ _) hl))) fun p S1 l1 g1 n1 => ps_fin (pv_bin (pv_call (pa_c (pv_var rfl) pa_n) (v_two_in (n := n + 1) (Nat.le_trans (bef_len _ _) hl))) (pv_bS (pa_c (pv_var rfl) pa_n) (d := .tup true (ansR (aft [61] w))) fun S2 l2 => ?_) fun _ => add_t ?_)
  · show (match seqD (.obj p) S2 with | some xs => Rs.ok (D.tup true xs) S2 | none => .no) = _
    rw [seqD_lst (l2.get g1)]
  · rcases ansR_ok (aft [61] w) with h | ⟨d, h, _⟩ <;> rw [h] <;> exact of_decide_eq_true rfl
theorem v_book_in {p : Po} {k : Nat} {ws : List (List Nat)} (hp : S.get p = some (.lst k (ws.map .str))) (hs : ∀ w ∈ ws, w.length ≤ big) (hl : ws.length ≤ 14000) : Fv (cal (n + 4)) 171 [.obj p] S (bokR ws) := by
  have hsm := tup_sma (f := entR) (fun w hw => entR_sma (hs w hw)) hl
  refine fv_body (c := cal (n + 3)) (fun _ _ => rfl) (ps_seq (ps_set (d := .tup true (ws.map entR)) (Pv.to (pv_tupl (pl_lc (f := fun x => entR (match x with | .str a => a | _ => [])) (pi_obj (pv_var rfl) fun S3 l3 => seqD_lst (l3.get hp)) (fun x hx => ?_) (by rw [List.length_map]; unfold big; omega))) ?_) fun _ => rfl) (ps_fin (pv_if (pt_of (pv_call (pa_c (pv_var rfl) pa_n) (v_is_book (n := n + 1) hsm.lk fun _ _ _ => hsm))) (fun hk => ?_) fun hk => ?_)))
  · obtain ⟨a, h1, rfl⟩ := List.mem_map.mp hx
    exact ⟨_, fun _ => rfl, pv_call (pa_c (pv_var rfl) pa_n) (v_entry_in (n := n) (hs a h1))⟩
  · rw [List.map_map]; rfl
  · exact Pv.to (pv_var rfl) (by unfold bokR orNon; rw [if_pos hk])
  · exact pv_c.to (by unfold bokR orNon; rw [if_neg (by rw [hk]; exact Bool.false_ne_true)])
theorem v_answers_in {p : Po} {k : Nat} {ws : List (List Nat)} (hp : S.get p = some (.lst k (ws.map .str))) (hs : ∀ w ∈ ws, w.length ≤ big) (hl : ws.length ≤ 14000) : Fv (cal (n + 5)) 172 [.obj p] S (anR ws) := by
  have hsm := tup_sma (f := aneR) (fun w hw => aneR_sma) hl
  refine fv_body (c := cal (n + 4)) (fun _ _ => rfl) (ps_seq (ps_set (d := .tup true (ws.map aneR)) (Pv.to (pv_tupl (pl_lc (f := fun x => aneR (match x with | .str a => a | _ => [])) (pi_obj (pv_var rfl) fun S3 l3 => seqD_lst (l3.get hp)) (fun x hx => ?_) (by rw [List.length_map]; unfold big; omega))) ?_) fun _ => rfl) (ps_fin (pv_if (pt_of (pv_call (pa_c (pv_var rfl) pa_n) (v_are_answers (n := n) hsm.lk fun _ _ _ => hsm))) (fun hk => ?_) fun hk => ?_)))
  · obtain ⟨a, h1, rfl⟩ := List.mem_map.mp hx
    exact ⟨_, fun _ => rfl, pv_call (pa_c (pv_var rfl) pa_n) (v_answer_entry_in (n := n) (hs a h1))⟩
  · rw [List.map_map]; rfl
  · exact Pv.to (pv_var rfl) (by unfold anR orNon; rw [if_pos hk])
  · exact pv_c.to (by unfold anR orNon; rw [if_neg (by rw [hk]; exact Bool.false_ne_true)])
theorem v_members_in {p : Po} {k : Nat} {ws : List (List Nat)} (hp : S.get p = some (.lst k (ws.map .str))) (hs : ∀ w ∈ ws, w.length ≤ big) (hl : ws.length ≤ 14000) : Fv (cal (n + 5)) 173 [.obj p] S (memR ws) := by
  have hsm := tup_sma (f := figD) (fun w hw => isno_sma (figD_no w)) hl
  refine fv_body (c := cal (n + 4)) (fun _ _ => rfl) (ps_seq (ps_set (d := .tup true (ws.map figD)) (Pv.to (pv_tupl (pl_lc (f := fun x => figD (match x with | .str a => a | _ => [])) (pi_obj (pv_var rfl) fun S3 l3 => seqD_lst (l3.get hp)) (fun x hx => ?_) (by rw [List.length_map]; unfold big; omega))) ?_) fun _ => rfl) (ps_fin (pv_if (pt_of (pv_call (pa_c (pv_var rfl) pa_n) (v_is_members (n := n) hsm.lk fun _ _ _ => hsm))) (fun hk => ?_) fun hk => ?_)))
  · obtain ⟨a, h1, rfl⟩ := List.mem_map.mp hx
    exact ⟨_, fun _ => rfl, pv_call (pa_c (pv_var rfl) pa_n) (v_figures_in (n := n + 3) (hs a h1))⟩
  · rw [List.map_map]; rfl
  · exact Pv.to (pv_var rfl) (by unfold memR orNon; rw [if_pos hk])
  · exact pv_c.to (by unfold memR orNon; rw [if_neg (by rw [hk]; exact Bool.false_ne_true)])
/-! states read -/
def wrdAt (i : Nat) : List Nat := [sBook, sAnss, sMems].getD i []
def resAt (i : Nat) (ws : List (List Nat)) : D := match i with
  | 0 => bokR ws
  | 1 => anR ws
  | _ => memR ws
def fnAt (i : Nat) : Nat := 171 + i
def kvR : List (Ky × D) := [(.inr sBook, .fnr 171), (.inr sAnss, .fnr 172), (.inr sMems, .fnr 173)]
theorem v_resAt {i : Nat} (hi : i < 3) {p : Po} {k : Nat} {ws : List (List Nat)} (hp : S.get p = some (.lst k (ws.map .str))) (hs : ∀ w ∈ ws, w.length ≤ big) (hl : ws.length ≤ 14000) : Fv (cal (n + 5)) (fnAt i) [.obj p] S (resAt i ws) := by
  match i, hi with
  | 0, _ => exact v_book_in (n := n + 1) hp hs hl
  | 1, _ => exact v_answers_in hp hs hl
  | 2, _ => exact v_members_in hp hs hl
/-- three rows, each of its word and some that are read -/
structure StaRd (l : List Nat) (wss : List (List (List Nat))) : Prop where
  len : wss.length = 3
  lines : TL.spl [10] 0 [] l = [TL.joinL [32] (sBook :: wss.getD 0 []), TL.joinL [32] (sAnss :: wss.getD 1 []), TL.joinL [32] (sMems :: wss.getD 2 [])]
  words : ∀ i, i < 3 → TL.spl [32] 0 [] (TL.joinL [32] (wrdAt i :: wss.getD i [])) = wrdAt i :: wss.getD i []
  good : ∀ i, i < 3 → resAt i (wss.getD i []) ≠ .non
theorem resAt_tup {i : Nat} {ws : List (List Nat)} (h : resAt i ws ≠ .non) : ∃ xs, resAt i ws = .tup true xs := by
  have go : ∀ (f : D → Bool) (xs : List D), orNon f (.tup true xs) ≠ .non → ∃ ys, orNon f (.tup true xs) = .tup true ys := fun f xs h => by
    unfold orNon at h ⊢
    split
    · exact ⟨xs, rfl⟩
    · rename_i z; rw [if_neg z] at h; exact absurd rfl h
  match i, h with
  | 0, h => exact go _ _ h
  | 1, h => exact go _ _ h
  | _ + 2, h => exact go _ _ h
theorem v_read_state {l : List Nat} {wss : List (List (List Nat))} (hl : l.length ≤ 13000) (R : StaRd l wss) : Fv (cal (n + 6)) 174 [.str l] S (.tup true [bokR (wss.getD 0 []), anR (wss.getD 1 []), memR (wss.getD 2 [])]) := by
  refine fv_body (c := cal (n + 5)) (fun _ _ => rfl) ?_
  refine ps_ifn (Pt.to (pt_not (pt_of (pv_is (t := .str) (pv_var rfl) (tys_of rfl)))) rfl) (fun h => by cases h) fun _ => ?_
  intro S1 l1
  have l2 := le_add (o := .lst 0 []) l1.wf
  have l3 := le_add (o := .dic false kvR) l2.wf
  let rows : List (List Nat) := [TL.joinL [32] (sBook :: wss.getD 0 []), TL.joinL [32] (sAnss :: wss.getD 1 []), TL.joinL [32] (sMems :: wss.getD 2 [])]
  have hrow : ∀ i (h : i < rows.length), rows[i] = TL.joinL [32] (wrdAt i :: wss.getD i []) := fun i h => by
    match i, h with
    | 0, _ => rfl
    | 1, _ => rfl
    | 2, _ => rfl
  have sm := spl_mem [10] l [] 0
  rw [R.lines] at sm
  have hrl : ∀ r ∈ rows, r.length ≤ l.length := fun r hr => by simpa using (sm r hr).1
  obtain ⟨p3, S4, e4, l4, g4, n4⟩ := (pl_split (c := cal (n + 5)) (env := [some (.str l), some (.obj S1.nx), some (.obj (S1.add (.lst 0 [])).nx), none, none, none, none, none, none]) (S := S) (o := eVar 0) (a := eC (.str [10])) (pv_var rfl) pv_c rfl rfl (by unfold big; omega)) _ (l1.trans (l2.trans l3))
  rw [R.lines] at g4
  have a4 : Acc S1 S1.nx [] S4 := ⟨l2.trans (l3.trans l4), Nat.le_refl _, (l3.trans l4).get add_get⟩
  have gd4 : S4.get (S1.add (.lst 0 [])).nx = some (.dic false kvR) := l4.get add_get
  have ne2 : (S1.add (.lst 0 [])).nx ≠ S1.nx := fun e => by have := congrArg Po.ix e; rw [add_nx] at this; omega
  have ne3 : p3 ≠ S1.nx := fun e => by rw [e, add_nx, add_nx] at n4; omega
  generalize hp2 : (S1.add (.lst 0 [])).nx = p2 at e4 gd4 ne2
  generalize hp1 : S1.nx = p1 at e4 a4 ne2 ne3
  let res : List D := [bokR (wss.getD 0 []), anR (wss.getD 1 []), memR (wss.getD 2 [])]
  have hres : ∀ i (h : i < res.length), res[i] = resAt i (wss.getD i []) := fun i h => by
    match i, h with
    | 0, _ => rfl
    | 1, _ => rfl
    | 2, _ => rfl
  let I : Nat → Slots → Sto → Prop := fun i env S' => (∃ o4 o5 o6 o7 o8, env = [some (.str l), some (.obj p1), some (.obj p2), some (.obj p3), o4, o5, o6, o7, o8]) ∧ Acc S1 p1 (res.take i) S' ∧ S'.get p2 = some (.dic false kvR) ∧ S'.get p3 = some (.lst 0 (rows.map .str))
  have hlm : (enmL (rows.map D.str)).length = 3 := by rw [enmL_len, List.length_map]; rfl
  have key := for_inv (c := cal (n + 5)) (z := .enm p3) (g := gT [(gN 4), (gN 5)]) (b := (sSeq (sSet (gStar [(gN 7)] (gN 8)) (eBM isStrD mSplit (eVar 5) (aCons (eC (.str [32])) aNil)))
 (sSeq (sIf (tOr' (tOf (eBin dGt (eVar 4) (eC (.int (2))))) (tOf (eBin dNe (eVar 7) (eBin dSub' (eTup (aCons (eC (.str [98, 111, 111, 107])) (aCons (eC (.str [97, 110, 115, 119, 101, 114, 115])) (aCons (eC (.str [109, 101, 109, 98, 101, 114, 115])) aNil)))) (eVar 4)))))
 (sSeq sNo
 sNil)
 sNil)
 (sSeq (sSet (gN 6) (eCallV [171, 172, 173] (eBin dSub' (eVar 2) (eVar 7)) (aCons (eVar 8) aNil)))
 (sSeq (sIf (tOf (eBin dIs (eVar 6) (eC .non)))
 (sSeq sNo
 sNil)
 sNil)
 (sSeq (sX (eBM isLstD mAppend (eVar 1) (aCons (eVar 6) aNil)))
 sNil)))))) (xs := enmL (rows.map .str)) I (fun _ => False) (fun i env S' h => at_enm (seqD_lst h.2.2.2) h.2.1.le.wf) (fun i hi env S' hI => ?_) (Iz.fuel (.enm p3) S4) 0 [some (.str l), some (.obj p1), some (.obj p2), some (.obj p3), none, none, none, none, none] S4 ⟨⟨_, _, _, _, _, rfl⟩, a4, gd4, g4⟩ ?_ (Nat.zero_le _)
  · rcases key with ⟨env2, S5, e5, ⟨o4, o5, o6, o7, o8, rfl⟩, a5, _⟩ | ⟨h, _⟩
    · rw [hlm] at a5
      have a5 : Acc S1 p1 res S5 := a5
      have fin : Ps (cal (n + 5)) [some (.str l), some (.obj p1), some (.obj p2), some (.obj p3), o4, o5, o6, o7, o8] S5 (sSeq (sIf (tOf (eBin dLt (eB bLen (aCons (eVar 1) aNil)) (eC (.int (3))))) (sSeq sNo sNil) sNil) (sSeq (sRet (eB bTup (aCons (eVar 1) aNil))) sNil)) (.rt (.tup true res)) := by
        refine ps_ifn (pt_of (pv_bin (pv_bS (pa_c (pv_var rfl) pa_n) fun S6 l6 => len_l (l6.get a5.at_)) pv_c fun _ => lt_i)) (fun h => by cases h) fun _ => ps_fin (pv_bS (pa_c (pv_var rfl) pa_n) fun S6 l6 => ?_)
        show (match seqD (.obj p1) S6 with | some xs => Rs.ok (D.tup true xs) S6 | none => .no) = _
        rw [seqD_lst (l6.get a5.at_)]
      obtain ⟨S6, e6, l6⟩ := fin S5 (.refl a5.le.wf)
      refine ⟨S6, ?_, a5.le.trans l6⟩
      have rf : iEnm (aCons (eVar 3) aNil) (cal (n + 5)) [some (.str l), some (.obj p1), some (.obj p2), some (.obj p3), none, none, none, none, none] S4 = .ok (.enm p3) S4 := by
        show (match seqD (.obj p3) S4 with | some _ => Rs.ok (Iz.enm p3) S4 | none => .no) = _
        rw [seqD_lst g4]
      have rd : sSet (gN 2) (eDis [((eC (.str [98, 111, 111, 107])), (eC (.fnr 171))), ((eC (.str [97, 110, 115, 119, 101, 114, 115])), (eC (.fnr 172))), ((eC (.str [109, 101, 109, 98, 101, 114, 115])), (eC (.fnr 173)))]) (cal (n + 5)) [some (.str l), some (.obj p1), none, none, none, none, none, none, none] (S1.add (.lst 0 []))
          = .nx [some (.str l), some (.obj p1), some (.obj p2), none, none, none, none, none, none] ((S1.add (.lst 0 [])).add (.dic false kvR)) := by
        show Rs.bindS (mkO (.dic false kvR) (S1.add (.lst 0 []))) _ _ = _
        rw [mkO_eq l2.wf, hp2]
        rfl
      refine (sSeq_run (run_new l1.wf)).trans ?_
      rw [hp1]
      refine (sSeq_run rd).trans ((sSeq_run (run_setl (p := p3) (S1 := S4) e4)).trans ((sSeq_run ((run_for (z := .enm p3) (S1 := S4) rf).trans e5)).trans e6))
    · exact h.elim
  · obtain ⟨⟨o4, o5, o6, o7, o8, rfl⟩, a5, h2, h3⟩ := hI
    have hi3 : i < 3 := by rw [hlm] at hi; exact hi
    have hx : (enmL (rows.map D.str))[i]'hi = .tup true [.int (.ofNat i), .str (TL.joinL [32] (wrdAt i :: wss.getD i []))] := by
      rw [enmL_get (xs := rows.map D.str) (by rw [List.length_map]; exact hi3) hi, List.getElem_map, hrow i hi3]
    refine ⟨[some (.str l), some (.obj p1), some (.obj p2), some (.obj p3), some (.int (.ofNat i)), some (.str (TL.joinL [32] (wrdAt i :: wss.getD i []))), o6, o7, o8], S', by rw [hx]; rfl, .inl ?_⟩
    have hli : (TL.joinL [32] (wrdAt i :: wss.getD i [])).length ≤ l.length := by rw [← hrow i hi3]; exact hrl _ (List.getElem_mem _)
    have sw := spl_mem [32] (TL.joinL [32] (wrdAt i :: wss.getD i [])) [] 0
    have sl := spl_len [32] (TL.joinL [32] (wrdAt i :: wss.getD i [])) [] 0
    rw [R.words i hi3] at sw sl
    simp only [List.length_cons] at sl
    obtain ⟨p0, S6, e6, l6, g6, n6⟩ := (pl_split (c := cal (n + 5)) (env := [some (.str l), some (.obj p1), some (.obj p2), some (.obj p3), some (.int (.ofNat i)), some (.str (TL.joinL [32] (wrdAt i :: wss.getD i []))), o6, o7, o8]) (S := S') (o := eVar 5) (a := eC (.str [32])) (pv_var rfl) pv_c rfl rfl (by unfold big; omega)) S' (.refl a5.le.wf)
    rw [R.words i hi3] at g6
    have l7 := le_add (o := .lst 0 ((wss.getD i []).map .str)) l6.wf
    have r1 : sSet (gStar [(gN 7)] (gN 8)) (eBM isStrD mSplit (eVar 5) (aCons (eC (.str [32])) aNil)) (cal (n + 5)) [some (.str l), some (.obj p1), some (.obj p2), some (.obj p3), some (.int (.ofNat i)), some (.str (TL.joinL [32] (wrdAt i :: wss.getD i []))), o6, o7, o8] S'
        = .nx [some (.str l), some (.obj p1), some (.obj p2), some (.obj p3), some (.int (.ofNat i)), some (.str (TL.joinL [32] (wrdAt i :: wss.getD i []))), o6, some (.str (wrdAt i)), some (.obj S6.nx)] (S6.add (.lst 0 ((wss.getD i []).map .str))) := by
      unfold sSet
      rw [e6]
      have hlen : ((wrdAt i :: wss.getD i []).map D.str).length ≤ 16000 := by rw [List.length_map, List.length_cons]; omega
      have hb : (Nat.ble 1 ((wrdAt i :: wss.getD i []).map D.str).length && Nat.ble ((wrdAt i :: wss.getD i []).map D.str).length 16000) = true := by
        rw [Nat.ble_eq_true_of_le hlen, List.length_map, List.length_cons, Nat.ble_eq_true_of_le (by omega)]; rfl
      have hg : ∀ env, gStar [gN 7] (gN 8) (.obj p0) env S6 = some ((env.set 7 (some (.str (wrdAt i)))).set 8 (some (.obj S6.nx)), S6.add (.lst 0 ((wss.getD i []).map .str))) := fun env => by
        unfold gStar
        rw [seqD_lst g6]
        show (match (Nat.ble 1 ((wrdAt i :: wss.getD i []).map D.str).length && Nat.ble ((wrdAt i :: wss.getD i []).map D.str).length 16000) with | true => _ | false => none) = _
        rw [hb]
        show (match mkO (.lst 0 ((wss.getD i []).map .str)) S6 with | .ok l S1 => gSeq [gN 7, gN 8] [.str (wrdAt i), l] _ S1 | _ => none) = _
        rw [mkO_eq l6.wf]
        rfl
      show (match gStar [gN 7] (gN 8) (.obj p0) _ S6 with | some (env1, S2) => Rt.nx env1 S2 | none => .no) = _
      rw [hg]; rfl
    have a7 := a5.mono (l6.trans l7)
    have h7 := (l6.trans l7).get h2
    have h7' := (l6.trans l7).get h3
    have g7 : (S6.add (.lst 0 ((wss.getD i []).map .str))).get S6.nx = some (.lst 0 ((wss.getD i []).map .str)) := add_get
    have l67 := l6.trans l7
    generalize hS7 : S6.add (.lst 0 ((wss.getD i []).map .str)) = S7 at r1 a7 h7 h7' g7 l67
    generalize S6.nx = p8 at r1 g7
    have t1 : Pt (cal (n + 5)) [some (.str l), some (.obj p1), some (.obj p2), some (.obj p3), some (.int (.ofNat i)), some (.str (TL.joinL [32] (wrdAt i :: wss.getD i []))), o6, some (.str (wrdAt i)), some (.obj p8)] S7 (tOr' (tOf (eBin dGt (eVar 4) (eC (.int (2))))) (tOf (eBin dNe (eVar 7) (eBin dSub' (eTup (aCons (eC (.str [98, 111, 111, 107])) (aCons (eC (.str [97, 110, 115, 119, 101, 114, 115])) (aCons (eC (.str [109, 101, 109, 98, 101, 114, 115])) aNil)))) (eVar 4))))) false := by
      refine (pt_or (x := false) (y := false) (pt_of (pv_bin (pv_var rfl) pv_c fun _ => (gt_i.trans (by rw [decide_eq_false]; show ¬ (2 : Int) < (i : Int); omega)))) fun _ => pt_of (pv_bin (y := .str (wrdAt i)) (pv_var rfl) (pv_bin (pv_tup (pa_c pv_c (pa_c pv_c (pa_c pv_c pa_n))) (of_decide_eq_true rfl)) (pv_var rfl) fun _ => ix_t ?_) fun _ => ?_)).to rfl
      · match i, hi3 with
        | 0, _ => rfl
        | 1, _ => rfl
        | 2, _ => rfl
      · rw [ne_s]; simp
    have kv : ∀ S8, Le S7 S8 → dSub' (.obj p2) (.str (wrdAt i)) S8 = .ok (.fnr (fnAt i)) S8 := fun S8 l8 => by
      unfold dSub'
      dsimp only
      rw [l8.get h7]
      dsimp only
      have : look S8 (.obj p2) (.str (wrdAt i)) = some (some (.fnr (fnAt i))) := by
        unfold look
        dsimp only
        rw [l8.get h7]
        match i, hi3 with
        | 0, _ => rfl
        | 1, _ => rfl
        | 2, _ => rfl
      rw [this]
    obtain ⟨S8, e8, l8⟩ := t1 S7 (.refl a7.le.wf)
    have hcall := v_resAt (n := n) (S := S8) hi3 (l8.get g7) (fun w hw => by have := (sw w (List.mem_cons_of_mem _ hw)).1; simp only [List.length_nil, Nat.zero_add] at this; unfold big; omega) (by omega)
    obtain ⟨S9, e9, l9⟩ := hcall S8 (.refl l8.wf)
    have r2 : sIf (tOr' (tOf (eBin dGt (eVar 4) (eC (.int (2))))) (tOf (eBin dNe (eVar 7) (eBin dSub' (eTup (aCons (eC (.str [98, 111, 111, 107])) (aCons (eC (.str [97, 110, 115, 119, 101, 114, 115])) (aCons (eC (.str [109, 101, 109, 98, 101, 114, 115])) aNil)))) (eVar 4))))) (sSeq sNo sNil) sNil (cal (n + 5)) [some (.str l), some (.obj p1), some (.obj p2), some (.obj p3), some (.int (.ofNat i)), some (.str (TL.joinL [32] (wrdAt i :: wss.getD i []))), o6, some (.str (wrdAt i)), some (.obj p8)] S7
        = .nx [some (.str l), some (.obj p1), some (.obj p2), some (.obj p3), some (.int (.ofNat i)), some (.str (TL.joinL [32] (wrdAt i :: wss.getD i []))), o6, some (.str (wrdAt i)), some (.obj p8)] S8 := by
      unfold sIf; rw [e8]; rfl
    have r3 : sSet (gN 6) (eCallV [171, 172, 173] (eBin dSub' (eVar 2) (eVar 7)) (aCons (eVar 8) aNil)) (cal (n + 5)) [some (.str l), some (.obj p1), some (.obj p2), some (.obj p3), some (.int (.ofNat i)), some (.str (TL.joinL [32] (wrdAt i :: wss.getD i []))), o6, some (.str (wrdAt i)), some (.obj p8)] S8
        = .nx [some (.str l), some (.obj p1), some (.obj p2), some (.obj p3), some (.int (.ofNat i)), some (.str (TL.joinL [32] (wrdAt i :: wss.getD i []))), some (resAt i (wss.getD i [])), some (.str (wrdAt i)), some (.obj p8)] S9 := by
      unfold sSet eCallV
      show Rs.bindS (Rs.bind (dSub' (.obj p2) (.str (wrdAt i)) S8) _) _ _ = _
      rw [kv S8 l8]
      have hj : ([171, 172, 173].any (Nat.beq (fnAt i))) = true := by
        match i, hi3 with
        | 0, _ => rfl
        | 1, _ => rfl
        | 2, _ => rfl
      show Rs.bindS (match [171, 172, 173].any (Nat.beq (fnAt i)) with | true => (aCons (eVar 8) aNil (cal (n + 5)) _ S8).bind fun ds S2 => cal (n + 5) (fnAt i) ds S2 | false => .no) _ _ = _
      rw [hj]
      show Rs.bindS (cal (n + 5) (fnAt i) [.obj p8] S8) _ _ = _
      rw [e9]; rfl
    obtain ⟨ys, hys⟩ := resAt_tup (R.good i hi3)
    have r4 : sIf (tOf (eBin dIs (eVar 6) (eC .non))) (sSeq sNo sNil) sNil (cal (n + 5)) [some (.str l), some (.obj p1), some (.obj p2), some (.obj p3), some (.int (.ofNat i)), some (.str (TL.joinL [32] (wrdAt i :: wss.getD i []))), some (resAt i (wss.getD i [])), some (.str (wrdAt i)), some (.obj p8)] S9
        = .nx [some (.str l), some (.obj p1), some (.obj p2), some (.obj p3), some (.int (.ofNat i)), some (.str (TL.joinL [32] (wrdAt i :: wss.getD i []))), some (resAt i (wss.getD i [])), some (.str (wrdAt i)), some (.obj p8)] S9 := by
      rw [hys]; rfl
    have a9 := a7.mono (l8.trans l9)
    have r5 := run_append (c := cal (n + 5)) (env := [some (.str l), some (.obj p1), some (.obj p2), some (.obj p3), some (.int (.ofNat i)), some (.str (TL.joinL [32] (wrdAt i :: wss.getD i []))), some (resAt i (wss.getD i [])), some (.str (wrdAt i)), some (.obj p8)]) (i := 1) (e := eVar 6) (d := resAt i (wss.getD i [])) rfl a9.at_ (by have := List.length_take_le i res; unfold big; omega) rfl (.refl l9.wf)
    refine ⟨_, _, .inl ((sSeq_run r1).trans ((sSeq_run r2).trans ((sSeq_run r3).trans ((sSeq_run r4).trans ((sSeq_run r5).trans rfl))))), ⟨_, _, _, _, _, rfl⟩, ?_, ?_, ?_⟩
    · have e : res.take i ++ [resAt i (wss.getD i [])] = res.take (i + 1) := by
        match i, hi3 with
        | 0, _ => rfl
        | 1, _ => rfl
        | 2, _ => rfl
      rw [e]
      exact a9.push
    · rw [Sto.put_ne ne2]; exact (l8.trans l9).get h7
    · rw [Sto.put_ne ne3]; exact (l8.trans l9).get h7'
  · show _ < Iz.fuel (.enm p3) S4 + 0
    unfold Iz.fuel
    dsimp only
    rw [seqD_lst g4, hlm]
    show 3 < 3 + 1 + 0
    decide
end
end Ev
set_option Elab.async false
set_option linter.all false
set_option maxRecDepth 100000
set_option maxHeartbeats 0
namespace Ev
open PySem
/-! ### what was written is read back -/
theorem bef_app {s : Nat} {p q : List Nat} (h : s ∉ p) : bef [s] (p ++ ([s] ++ q)) = p := by
  have e := TL.par_part1 (s := s) (S := []) (p := p) (rest := q) (acc := []) h
  unfold bef
  rw [e]
  simp
theorem aft_app {s : Nat} {p q : List Nat} (h : s ∉ p) : aft [s] (p ++ ([s] ++ q)) = q := by
  have e := TL.par_part1 (s := s) (S := []) (p := p) (rest := q) (acc := []) h
  unfold aft
  rw [e]
theorem numL_head : ∀ {n : Nat}, n ≠ 0 → TL.pre [48] (TL.numL n) = false := by
  intro n
  induction n using Nat.strongRecOn with
  | _ n ih =>
    intro h
    by_cases h10 : n < 10
    · rw [TL.numL_lt h10]
      show (([48 + n].take 1) == [48]) = false
      refine beq_eq_false_iff_ne.mpr ?_
      simp
      omega
    · rw [TL.numL_step (by omega)]
      have := ih (n / 10) (by omega) (by omega)
      have hne := TL.numL_ne (n / 10)
      cases hl : TL.numL (n / 10) with
      | nil => exact absurd hl hne
      | cons a r =>
        rw [hl] at this
        exact this
theorem numL_fig {n : Nat} (h : n < 10 ^ 30) : figB (TL.numL n) = true := by
  have h1 := TL.numL_len (k := 30) (by decide) h
  have h2 := TL.numL_ne n
  have h3 := TL.numL_digits n
  simp only [figB, Bool.and_eq_true, decide_eq_true_eq, List.all_eq_true]
  refine ⟨⟨?_, h1⟩, fun a ha => ?_⟩
  · cases hl : TL.numL n with
    | nil => exact absurd hl h2
    | cons _ _ => simp
  · have := h3 a ha
    simpa using this
theorem figD_num {n : Nat} (h : n < 10 ^ 30) : figD (TL.numL n) = .int n := by
  unfold figD
  rw [if_pos]
  · rw [TL.numL_val]
  · refine ⟨numL_fig h, fun z => ?_⟩
    by_cases hn : n = 0
    · subst hn
      exact z.1 (by rw [TL.numL_lt (by decide)])
    · rw [numL_head hn] at z
      cases z.2
theorem figD_int {i : Int} (h0 : 0 ≤ i) (h : i.natAbs < 10 ^ 30) : figD (intL i) = .int i := by
  obtain ⟨n, rfl⟩ := Int.eq_ofNat_of_zero_le h0
  exact figD_num h
theorem pre_num {s : Nat} (hs : s < 48 ∨ 57 < s) (n : Nat) : TL.pre [s] (TL.numL n) = false := by
  have h2 := TL.numL_ne n
  have h3 := TL.numL_free (n := n) hs
  cases hl : TL.numL n with
  | nil => exact absurd hl h2
  | cons a r =>
    rw [hl] at h3
    show (([a]) == [s]) = false
    refine beq_eq_false_iff_ne.mpr fun e => ?_
    simp at e
    subst e
    simp at h3
theorem numD_int {i : Int} (h : i.natAbs < 10 ^ 30) : numD (intL i) = .int i := by
  cases i with
  | ofNat n =>
    show numD (TL.numL n) = _
    unfold numD
    rw [pre_num (by decide), if_neg Bool.false_ne_true]
    exact figD_num h
  | negSucc n =>
    show numD (45 :: TL.numL (n + 1)) = _
    unfold numD
    rw [show TL.pre [45] (45 :: TL.numL (n + 1)) = true from rfl, if_pos rfl]
    show (match figD (TL.numL (n + 1)) with | .int i => if i = 0 then D.non else D.int (0 - i) | _ => D.non) = _
    rw [figD_num (by exact h)]
    dsimp only
    rw [if_neg (by omega)]
    congr 1
theorem intL_free {i : Int} {s : Nat} (hs : (s < 48 ∨ 57 < s) ∧ s ≠ 45) : s ∉ intL i := by
  cases i with
  | ofNat n => exact TL.numL_free hs.1
  | negSucc n =>
    show s ∉ 45 :: TL.numL (n + 1)
    intro h
    rcases List.mem_cons.mp h with e | e
    · exact hs.2 e
    · exact TL.numL_free hs.1 e
theorem intL_chars {i : Int} : ∀ a ∈ intL i, 45 ≤ a ∧ a ≤ 57 := by
  intro a ha
  cases i with
  | ofNat n => have := TL.numL_digits n a ha; omega
  | negSucc n =>
    rcases List.mem_cons.mp ha with e | e
    · omega
    · have := TL.numL_digits (n + 1) a e; omega
theorem intL_ne (i : Int) : intL i ≠ [] := by
  cases i with
  | ofNat n => exact TL.numL_ne n
  | negSucc n => exact List.cons_ne_nil _ _
/-- tuples made now alone -/
def Cd (d : D) : Prop := ∃ xs, d = .tup true xs
def DeedC (d : D) : Prop := deedB d = true ∧ Cd d
def AskC (k : D) : Prop := k = .non ∨ ∃ a s e, k = .tup true [.int a, .int s, e] ∧ askB k = true ∧ DeedC e
theorem AskC.ok {k : D} (h : AskC k) : AskOk k := by
  rcases h with h | ⟨a, s, e, _, h, _⟩
  · exact .inl h
  · exact .inr h
theorem wrd_free {w : List Nat} (h : ∀ a ∈ w, 97 ≤ a ∧ a ≤ 122) {s : Nat} (hs : s < 97) : s ∉ w := fun hm => by have := h s hm; omega
theorem name_wrd {nm : List Nat} (h : nameB (.str nm) = true) : ∀ a ∈ nm, 97 ≤ a ∧ a ≤ 122 := (name_len h).2.2
/-- a deed's words, read -/
theorem deed_back {e : D} (h : DeedC e) : ∃ w ws, TL.spl [32] 0 [] (deedT e) = w :: ws ∧ deedR w ws = e ∧ ∀ a ∈ deedT e, a < 128 ∧ a ≠ 10 := by
  obtain ⟨hb, xs, rfl⟩ := h
  have e30 : (10 : Nat) ^ 30 = 1000000000000000000000000000000 := by decide
  rcases deed_form hb with ⟨q, w, nm, i, he, hw, hn, h1, h2⟩ | ⟨q, nm, he, hn⟩ | ⟨q, i, j, he, h1, h2, h3, h4, h5⟩
  · cases he
    have hww : ∀ a ∈ w, 97 ≤ a ∧ a ≤ 122 := by rcases hw with rfl | rfl <;> decide
    have hnm := name_wrd hn
    have sp : TL.spl [32] 0 [] (deedT (.tup true [.str w, .str nm, .int i])) = [w, nm, intL i] := by
      show TL.spl [32] 0 [] (TL.joinL [32] [w, nm, intL i]) = _
      refine TL.spl_join (by simp) fun p hp => ?_
      simp at hp
      rcases hp with rfl | rfl | rfl
      · exact wrd_free hww (by decide)
      · exact wrd_free hnm (by decide)
      · exact intL_free (by decide)
    refine ⟨w, [nm, intL i], sp, ?_, fun a ha => ?_⟩
    · have hf : deedF w [nm, intL i] = .tup true [.str w, .str nm, .int i] := by
        show (if isWrd w = true then _ else _) = _
        rw [if_pos (by rcases hw with rfl | rfl <;> rfl)]
        show D.tup true [.str w, .str nm, numD (intL i)] = _
        rw [numD_int (by rw [e30]; omega)]
      unfold deedR
      rw [hf, if_pos hb]
    · simp only [deedT, List.map_cons, List.map_nil, strOf, TL.joinL, List.mem_append, List.mem_singleton] at ha
      rcases ha with ha | ha | ha | ha | ha
      · have := hww a ha; omega
      · omega
      · have := hnm a ha; omega
      · omega
      · have := intL_chars a ha; omega
  · cases he
    have hnm := name_wrd hn
    have sp : TL.spl [32] 0 [] (deedT (.tup true [.str sDrop, .str nm])) = [sDrop, nm] := by
      show TL.spl [32] 0 [] (TL.joinL [32] [sDrop, nm]) = _
      refine TL.spl_join (by simp) fun p hp => ?_
      simp at hp
      rcases hp with rfl | rfl
      · decide
      · exact wrd_free hnm (by decide)
    refine ⟨sDrop, [nm], sp, ?_, fun a ha => ?_⟩
    · have hf : deedF sDrop [nm] = .tup true [.str sDrop, .str nm] := rfl
      unfold deedR
      rw [hf, if_pos hb]
    · simp only [deedT, List.map_cons, List.map_nil, strOf, TL.joinL, List.mem_append, List.mem_singleton] at ha
      rcases ha with ha | ha | ha
      · have : ∀ a ∈ sDrop, 97 ≤ a ∧ a ≤ 122 := by decide
        have := this a ha; omega
      · omega
      · have := hnm a ha; omega
  · cases he
    have sp : TL.spl [32] 0 [] (deedT (.tup true [.str sSwap, .int i, .int j])) = [sSwap, intL i, intL j] := by
      show TL.spl [32] 0 [] (TL.joinL [32] [sSwap, intL i, intL j]) = _
      refine TL.spl_join (by simp) fun p hp => ?_
      simp at hp
      rcases hp with rfl | rfl | rfl
      · decide
      · exact intL_free (by decide)
      · exact intL_free (by decide)
    refine ⟨sSwap, [intL i, intL j], sp, ?_, fun a ha => ?_⟩
    · have hf : deedF sSwap [intL i, intL j] = .tup true [.str sSwap, .int i, .int j] := by
        show (if isWrd sSwap = true then (D.tup true (.str sSwap :: .str (intL i) :: [numD (intL j)])) else _) = _
        rw [if_neg (by decide)]
        show D.tup true [.str sSwap, numD (intL i), numD (intL j)] = _
        rw [numD_int (by rw [e30]; omega), numD_int (by rw [e30]; omega)]
      unfold deedR
      rw [hf, if_pos hb]
    · simp only [deedT, List.map_cons, List.map_nil, strOf, TL.joinL, List.mem_append, List.mem_singleton] at ha
      rcases ha with ha | ha | ha | ha | ha
      · have : ∀ a ∈ sSwap, 97 ≤ a ∧ a ≤ 122 := by decide
        have := this a ha; omega
      · omega
      · have := intL_chars a ha; omega
      · omega
      · have := intL_chars a ha; omega
theorem ask_back {k : D} (h : AskC k) : askR (askT k) = [k] ∧ ∀ a ∈ askT k, a < 128 ∧ a ≠ 10 := by
  have e30 : (10 : Nat) ^ 30 = 1000000000000000000000000000000 := by decide
  rcases h with rfl | ⟨a, s, e, rfl, hb, hd⟩
  · exact ⟨rfl, by decide⟩
  · obtain ⟨q, a', s', e', he, h1, h2, h3, h4, _⟩ := ask_form hb
    cases he
    obtain ⟨w, ws, sp, hr, hc⟩ := deed_back hd
    have e1 : askT (.tup true [.int a, .int s, e]) = (intL a ++ ([46] ++ intL s)) ++ ([32] ++ deedT e) := by simp [askT]
    have fr : (32 : Nat) ∉ intL a ++ ([46] ++ intL s) := by
      intro hm
      simp only [List.mem_append, List.mem_singleton] at hm
      rcases hm with hm | hm | hm
      · exact intL_free (by decide) hm
      · cases hm
      · exact intL_free (by decide) hm
    have sp2 : TL.spl [32] 0 [] (askT (.tup true [.int a, .int s, e])) = (intL a ++ ([46] ++ intL s)) :: w :: ws := by
      rw [e1]
      have := TL.spl_part1 (s := 32) (S := []) (p := intL a ++ ([46] ++ intL s)) (rest := deedT e) (acc := []) fr
      rw [sp] at this
      exact this
    have hF : askF (intL a ++ ([46] ++ intL s)) w ws = .tup true [.int a, .int s, e] := by
      unfold askF
      rw [bef_app (intL_free (by decide)), aft_app (intL_free (by decide)), hr, figD_int h1 (by rw [e30]; omega), figD_int (by omega) (by rw [e30]; omega)]
    refine ⟨?_, fun x hx => ?_⟩
    · unfold askR
      rw [if_neg, sp2]
      · dsimp only
        rw [hF, if_pos hb]
      · intro z
        have := congrArg List.length z
        rw [e1] at this
        simp at this
        have h5 := List.length_pos_iff.mpr (intL_ne a)
        omega
    · rw [e1] at hx
      simp only [List.mem_append, List.mem_singleton] at hx
      rcases hx with (hx | hx | hx) | hx | hx
      · have := intL_chars x hx; omega
      · omega
      · have := intL_chars x hx; omega
      · omega
      · exact hc x hx
def RowC (r : D) : Prop := ∃ a b k, r = .tup true [.int a, .int b, k] ∧ 0 ≤ a ∧ a ≤ 1000000000 ∧ 0 ≤ b ∧ b ≤ 29 ∧ AskC k
theorem RowC.ok {r : D} (h : RowC r) : RowOk r := by
  obtain ⟨a, b, k, rfl, h1, h2, h3, h4, h5⟩ := h
  exact ⟨true, a, b, k, rfl, h1, h2, h3, h4, h5.ok⟩
theorem row_back {r : D} (h : RowC r) : dorR (rowT r) = r ∧ ∀ a ∈ rowT r, a < 128 ∧ a ≠ 10 := by
  have e30 : (10 : Nat) ^ 30 = 1000000000000000000000000000000 := by decide
  obtain ⟨a, b, k, rfl, h1, h2, h3, h4, h5⟩ := h
  obtain ⟨k1, k2⟩ := ask_back h5
  have e1 : rowT (.tup true [.int a, .int b, k]) = (intL a ++ ([46] ++ intL b)) ++ ([32] ++ askT k) := by simp [rowT]
  have fr : (32 : Nat) ∉ intL a ++ ([46] ++ intL b) := by
    intro hm
    simp only [List.mem_append, List.mem_singleton] at hm
    rcases hm with hm | hm | hm
    · exact intL_free (by decide) hm
    · cases hm
    · exact intL_free (by decide) hm
  refine ⟨?_, fun x hx => ?_⟩
  · unfold dorR
    rw [e1, aft_app fr, bef_app fr, k1]
    dsimp only
    rw [bef_app (intL_free (by decide)), aft_app (intL_free (by decide)), figD_int h1 (by rw [e30]; omega), figD_int h3 (by rw [e30]; omega)]
    rw [if_pos]
    simp only [frmB, Bool.and_eq_true, decide_eq_true_eq]
    omega
  · rw [e1] at hx
    simp only [List.mem_append, List.mem_singleton] at hx
    rcases hx with (hx | hx | hx) | hx | hx
    · have := intL_chars x hx; omega
    · omega
    · have := intL_chars x hx; omega
    · omega
    · exact k2 x hx
theorem lines_back {rows : List D} (h : ∀ r ∈ rows, RowC r) : linesR (TL.joinL [10] (rows.map rowT)) = rows.map rowT := by
  cases rows with
  | nil => rfl
  | cons r rs =>
    unfold linesR
    rw [if_neg]
    · refine TL.spl_join (by simp) fun p hp => ?_
      obtain ⟨x, hx, rfl⟩ := List.mem_map.mp hp
      intro hm
      exact ((row_back (h x hx)).2 10 hm).2 rfl
    · intro z
      obtain ⟨a, b, k, rfl, _⟩ := h r (by simp)
      have h5 := List.length_pos_iff.mpr (intL_ne a)
      have := congrArg List.length z
      cases rs with
      | nil => simp [TL.joinL, rowT] at this
      | cons s rs => simp [TL.joinL, rowT] at this
theorem joinL_mem {s : List Nat} {a : Nat} : ∀ {ps : List (List Nat)}, a ∈ TL.joinL s ps → a ∈ s ∨ ∃ p ∈ ps, a ∈ p
  | [], h => by cases h
  | [p], h => .inr ⟨p, by simp, h⟩
  | p :: q :: r, h => by
    simp only [TL.joinL, List.mem_append] at h
    rcases h with h | h | h
    · exact .inr ⟨p, by simp, h⟩
    · exact .inl h
    · rcases joinL_mem h with z | ⟨x, hx, hz⟩
      · exact .inl z
      · exact .inr ⟨x, List.mem_cons_of_mem _ hx, hz⟩
/-! states -/
def BokC (x : D) : Prop := ∃ nm v, x = .tup true [.str nm, .int v] ∧ nameB (.str nm) = true ∧ v.natAbs < 10 ^ 30
def AnC (x : D) : Prop := ∃ a s e, x = .tup true [.int a, .int s, e] ∧ 0 ≤ a ∧ a ≤ 9 ∧ 1 ≤ s ∧ s ≤ 1000000000 ∧ ansB e = true ∧ ∀ i, e = .int i → i.natAbs < 10 ^ 30
theorem lt31 {n : Nat} (h : n < 10 ^ 30) : n < 10 ^ 31 := Nat.lt_trans h (by decide)
theorem BokC.ok {x : D} (h : BokC x) : BokOk x := by
  obtain ⟨nm, v, rfl, h1, h2⟩ := h
  exact ⟨true, nm, v, rfl, h1, lt31 h2⟩
theorem AnC.ok {x : D} (h : AnC x) : AnOk x := by
  obtain ⟨a, s, e, rfl, h1, h2, h3, h4, h5, h6⟩ := h
  exact ⟨true, a, s, e, rfl, h1, h2, h3, h4, h5, fun i hi => lt31 (h6 i hi)⟩
theorem bok_back {x : D} (h : BokC x) : entR (bokT x) = x ∧ ∀ a ∈ bokT x, a < 128 ∧ a ≠ 10 ∧ a ≠ 32 := by
  obtain ⟨nm, v, rfl, h1, h2⟩ := h
  have hw := name_wrd h1
  refine ⟨?_, fun a ha => ?_⟩
  · unfold entR bokT
    dsimp only
    rw [bef_app (wrd_free hw (by decide)), aft_app (wrd_free hw (by decide)), numD_int h2]
  · simp only [bokT, List.mem_append, List.mem_singleton] at ha
    rcases ha with ha | ha | ha
    · have := hw a ha; omega
    · omega
    · have := intL_chars a ha; omega
theorem ans_back {e : D} (h : ansB e = true) (hi : ∀ i, e = .int i → i.natAbs < 10 ^ 30) : ansR (ansT e) = [e] ∧ ∀ a ∈ ansT e, a < 128 ∧ a ≠ 10 ∧ a ≠ 32 := by
  cases e with
  | non => exact ⟨rfl, by decide⟩
  | bl b => cases b <;> exact ⟨rfl, by decide⟩
  | int i =>
    refine ⟨?_, fun a ha => ?_⟩
    · show ansR (intL i) = _
      have hn : tabV kv_201 (intL i) = none := by
        have hc := intL_chars (i := i)
        have ht : ∀ w : List Nat, (∃ a ∈ w, 57 < a) → leq w (intL i) = false := fun w ⟨a, ha, hlt⟩ => by
          rw [leq_dec, decide_eq_false]
          intro e
          subst e
          have := hc a ha
          omega
        unfold kv_201 tabV
        rw [ht _ ⟨121, by decide, by decide⟩]
        unfold tabV
        rw [ht _ ⟨110, by decide, by decide⟩]
        unfold tabV
        rw [show leq [45] (intL i) = false from ?_]
        · rfl
        · rw [leq_dec, decide_eq_false]
          intro e
          cases i with
          | ofNat n =>
            have := TL.numL_digits n 45 (by have : (45 : Nat) ∈ intL (Int.ofNat n) := by rw [← e]; simp
                                            exact this)
            omega
          | negSucc n =>
            have e2 : [45] = 45 :: TL.numL (n + 1) := e
            injection e2 with _ e3
            exact TL.numL_ne _ e3.symm
      unfold ansR
      rw [hn, numD_int (hi i rfl)]
    · have := intL_chars a ha; omega
  | _ => cases h
theorem an_back {x : D} (h : AnC x) : aneR (anT x) = x ∧ ∀ a ∈ anT x, a < 128 ∧ a ≠ 10 ∧ a ≠ 32 := by
  have e30 : (10 : Nat) ^ 30 = 1000000000000000000000000000000 := by decide
  obtain ⟨a, s, e, rfl, h1, h2, h3, h4, h5, h6⟩ := h
  obtain ⟨r1, r2⟩ := ans_back h5 h6
  have e1 : anT (.tup true [.int a, .int s, e]) = (intL a ++ ([46] ++ intL s)) ++ ([61] ++ ansT e) := by simp [anT]
  have fr : (61 : Nat) ∉ intL a ++ ([46] ++ intL s) := by
    intro hm
    simp only [List.mem_append, List.mem_singleton] at hm
    rcases hm with hm | hm | hm
    · exact intL_free (by decide) hm
    · cases hm
    · exact intL_free (by decide) hm
  refine ⟨?_, fun x hx => ?_⟩
  · unfold aneR
    rw [e1, bef_app fr, aft_app fr, bef_app (intL_free (by decide)), aft_app (intL_free (by decide)), r1, figD_int h1 (by rw [e30]; omega), figD_int (by omega) (by rw [e30]; omega)]
    rfl
  · rw [e1] at hx
    simp only [List.mem_append, List.mem_singleton] at hx
    rcases hx with (hx | hx | hx) | hx | hx
    · have := intL_chars x hx; omega
    · omega
    · have := intL_chars x hx; omega
    · omega
    · exact r2 x hx
theorem mem_back {x : D} (h : MemOk x) : figD (strOf x) = x ∧ ∀ a ∈ strOf x, a < 128 ∧ a ≠ 10 ∧ a ≠ 32 := by
  have e30 : (10 : Nat) ^ 30 = 1000000000000000000000000000000 := by decide
  obtain ⟨i, rfl, h1, h2⟩ := h
  refine ⟨figD_int h1 (by rw [e30]; omega), fun a ha => ?_⟩
  have := intL_chars a ha; omega
theorem map_id_of {α : Type} {f : α → α} : ∀ {xs : List α}, (∀ x ∈ xs, f x = x) → xs.map f = xs
  | [], _ => rfl
  | x :: xs, h => by rw [List.map_cons, h x (by simp), map_id_of fun y hy => h y (List.mem_cons_of_mem _ hy)]
/-- a state that is written, read back -/
theorem sta_back {bs as ms : List D} (h : staB (.tup true [.tup true bs, .tup true as, .tup true ms]) = true) (hb : ∀ x ∈ bs, BokC x) (ha : ∀ x ∈ as, AnC x) (hm : ∀ x ∈ ms, MemOk x) :
    StaRd (staT (.tup true [.tup true bs, .tup true as, .tup true ms])) [bs.map bokT, as.map anT, ms.map strOf] ∧ bokR (bs.map bokT) = .tup true bs ∧ anR (as.map anT) = .tup true as ∧ memR (ms.map strOf) = .tup true ms ∧
      ∀ a ∈ staT (.tup true [.tup true bs, .tup true as, .tup true ms]), a < 128 := by
  have h2 : bookB (.tup true bs) = true ∧ anssB (.tup true as) = true ∧ memB (.tup true ms) = true := by
    have : (bookB (.tup true bs) && (anssB (.tup true as) && memB (.tup true ms))) = true := h
    simpa using this
  have r1 : bokR (bs.map bokT) = .tup true bs := by
    unfold bokR orNon
    rw [List.map_map, map_id_of (f := entR ∘ bokT) fun x hx => (bok_back (hb x hx)).1, if_pos h2.1]
  have r2 : anR (as.map anT) = .tup true as := by
    unfold anR orNon
    rw [List.map_map, map_id_of (f := aneR ∘ anT) fun x hx => (an_back (ha x hx)).1, if_pos h2.2.1]
  have r3 : memR (ms.map strOf) = .tup true ms := by
    unfold memR orNon
    rw [List.map_map, map_id_of (f := figD ∘ strOf) fun x hx => (mem_back (hm x hx)).1, if_pos h2.2.2]
  have c1 : ∀ p ∈ sBook :: bs.map bokT, ∀ a ∈ p, a < 128 ∧ a ≠ 10 ∧ a ≠ 32 := fun p hp a ha => by
    rcases List.mem_cons.mp hp with rfl | hp
    · have : ∀ a ∈ sBook, a < 128 ∧ a ≠ 10 ∧ a ≠ 32 := by decide
      exact this a ha
    · obtain ⟨x, hx, rfl⟩ := List.mem_map.mp hp
      exact (bok_back (hb x hx)).2 a ha
  have c2 : ∀ p ∈ sAnss :: as.map anT, ∀ a ∈ p, a < 128 ∧ a ≠ 10 ∧ a ≠ 32 := fun p hp a ha' => by
    rcases List.mem_cons.mp hp with rfl | hp
    · have : ∀ a ∈ sAnss, a < 128 ∧ a ≠ 10 ∧ a ≠ 32 := by decide
      exact this a ha'
    · obtain ⟨x, hx, rfl⟩ := List.mem_map.mp hp
      exact (an_back (ha x hx)).2 a ha'
  have c3 : ∀ p ∈ sMems :: ms.map strOf, ∀ a ∈ p, a < 128 ∧ a ≠ 10 ∧ a ≠ 32 := fun p hp a ha' => by
    rcases List.mem_cons.mp hp with rfl | hp
    · have : ∀ a ∈ sMems, a < 128 ∧ a ≠ 10 ∧ a ≠ 32 := by decide
      exact this a ha'
    · obtain ⟨x, hx, rfl⟩ := List.mem_map.mp hp
      exact (mem_back (hm x hx)).2 a ha'
  have line : ∀ ps : List (List Nat), (∀ p ∈ ps, ∀ a ∈ p, a < 128 ∧ a ≠ 10 ∧ a ≠ 32) → ∀ a ∈ TL.joinL [32] ps, a < 128 ∧ a ≠ 10 := fun ps hp a ha' => by
    rcases joinL_mem ha' with z | ⟨p, hp1, hz⟩
    · simp at z; omega
    · have := hp p hp1 a hz; omega
  refine ⟨⟨rfl, ?_, fun i hi => ?_, fun i hi => ?_⟩, r1, r2, r3, fun a ha' => ?_⟩
  · show TL.spl [10] 0 [] (TL.joinL [10] _) = _
    refine TL.spl_join (by simp) fun p hp => ?_
    simp only [List.mem_cons, List.not_mem_nil, or_false] at hp
    rcases hp with rfl | rfl | rfl
    · exact fun z => (line _ c1 10 z).2 rfl
    · exact fun z => (line _ c2 10 z).2 rfl
    · exact fun z => (line _ c3 10 z).2 rfl
  · match i, hi with
    | 0, _ => exact TL.spl_join (by simp) fun p hp z => (c1 p hp 32 z).2.2 rfl
    | 1, _ => exact TL.spl_join (by simp) fun p hp z => (c2 p hp 32 z).2.2 rfl
    | 2, _ => exact TL.spl_join (by simp) fun p hp z => (c3 p hp 32 z).2.2 rfl
  · match i, hi with
    | 0, _ => show bokR (bs.map bokT) ≠ .non; rw [r1]; exact fun z => by cases z
    | 1, _ => show anR (as.map anT) ≠ .non; rw [r2]; exact fun z => by cases z
    | 2, _ => show memR (ms.map strOf) ≠ .non; rw [r3]; exact fun z => by cases z
  · have ha2 : a ∈ TL.joinL [10] [TL.joinL [32] (sBook :: bs.map bokT), TL.joinL [32] (sAnss :: as.map anT), TL.joinL [32] (sMems :: ms.map strOf)] := ha'
    rcases joinL_mem ha2 with z | ⟨p, hp1, hz⟩
    · simp at z; omega
    · simp only [List.mem_cons, List.not_mem_nil, or_false] at hp1
      rcases hp1 with rfl | rfl | rfl
      · exact (line _ c1 a hz).1
      · exact (line _ c2 a hz).1
      · exact (line _ c3 a hz).1
end Ev
set_option Elab.async false
set_option linter.all false
set_option maxRecDepth 100000
set_option maxHeartbeats 0
namespace Ev
open PySem
local macro_rules
  | `(tactic| nofun) => `(tactic| first
    | exact pv_var rfl
    | exact pv_c
    | exact pa_n
    | exact pt_yes
    | exact po_no
    | assumption
    | (with_reducible apply po_part
       nofun)
    | (with_reducible apply pa_c
       · nofun
       · nofun)
    | (with_reducible apply pt_of
       nofun)
    | (with_reducible apply pt_not
       nofun)
    | (with_reducible apply pt_or_t
       with_reducible apply Pt.to
       · nofun
       · first | rfl | (simp [*]; done))
    | (with_reducible apply pt_or
       · nofun
       · (intro _
          nofun))
    | (with_reducible apply pt_and_f
       with_reducible apply Pt.to
       · nofun
       · first | rfl | (simp [*]; done))
    | (with_reducible apply pt_and
       · nofun
       · (intro _
          nofun))
    | (with_reducible apply pv_and_f
       with_reducible apply Pv.to
       · nofun
       · first | rfl | (simp [*]; done))
    | (with_reducible apply pv_and
       · nofun
       · (intro _
          nofun))
    | (with_reducible apply pv_or_t
       with_reducible apply Pv.to
       · nofun
       · first | rfl | (simp [*]; done))
    | (with_reducible apply pv_or
       · nofun
       · (intro _
          nofun))
    | (with_reducible apply pv_not
       nofun)
    | (with_reducible apply pv_neg
       nofun)
    | (with_reducible apply pv_is
       · nofun
       · first | exact tys_of rfl | assumption)
    | (with_reducible apply pv_tup
       · nofun
       · exact of_decide_eq_true rfl)
    | (with_reducible apply pl_lst
       · nofun
       · exact of_decide_eq_true rfl)
    | (with_reducible apply pv_call
       · nofun
       · assumption)
    | (with_reducible apply pl_call
       · nofun
       · assumption)
    | (with_reducible apply pv_callK
       · nofun
       · nofun
       · assumption)
    | (with_reducible apply pv_b
       · nofun
       · first | exact fun _ => len_t | exact fun _ => len_s (by assumption) | exact fun _ => rfl)
    | (with_reducible apply pv_bS
       · nofun
       · exact fun _ l => len_l (l.get (by assumption)))
    | (with_reducible apply pv_bin
       · nofun
       · nofun
       · first | exact fun _ => le_i | exact fun _ => lt_i | exact fun _ => gt_i | exact fun _ => ge_i | exact fun _ => eq_i | exact fun _ => ne_i | exact fun _ => eq_s | exact fun _ => ne_s | exact fun _ => in_two | exact fun _ => ix_t rfl | exact fun _ => rfl)
    | (with_reducible apply pv_binS
       · nofun
       · nofun
       · exact fun _ l => ix_l (l.get (by assumption)) rfl)
    | (with_reducible apply pv_chain
       · nofun
       · nofun
       · exact fun _ => le_i
       · (intro _
          nofun)
       · exact fun _ _ => le_i)
    | (with_reducible apply pv_bm
       · nofun
       · nofun
       · exact fun _ => rfl
       · exact fun _ => rfl)
    | (with_reducible apply pv_tupl
       nofun))

/-! ### the law's own defs -/
theorem add_s {a b : List Nat} {S : Sto} (h : a.length + b.length ≤ big) : dAdd (.str a) (.str b) S = .ok (.str (a ++ b)) S := by
  unfold dAdd
  dsimp only
  rw [Nat.ble_eq_true_of_le h]
section
variable {c : Cal} {env : Slots} {S : Sto}
/-- an item of a new list -/
theorem pv_ixn {a b : Ev} {xs : List D} {i : Int} {d : D} (ha : Pl c env S a xs) (hb : Pv c env S b (.int i)) (h : ixD xs i = some d) : Pv c env S (eBin dSub' a b) d := fun S1 l => by
  obtain ⟨p, S2, e2, l2, g2, _⟩ := ha S1 l
  obtain ⟨S3, e3, l3⟩ := hb S2 (l.trans l2)
  refine ⟨S3, ?_, l2.trans l3⟩
  unfold eBin
  rw [e2]
  show Rs.bind (b c env S2) _ = _
  rw [e3]
  exact ix_l (l3.get g2) h
/-- an item of a list in a slot -/
theorem pv_ixo {a b : Ev} {p : Po} {k : Nat} {xs : List D} {i : Int} {d : D} (ha : Pv c env S a (.obj p)) (hp : S.get p = some (.lst k xs)) (hb : Pv c env S b (.int i)) (h : ixD xs i = some d) : Pv c env S (eBin dSub' a b) d :=
  pv_binS ha hb fun S1 l => ix_l (l.get hp) h
theorem pv_adds {a b : Ev} {x y : List Nat} (ha : Pv c env S a (.str x)) (hb : Pv c env S b (.str y)) (h : x.length + y.length ≤ big) : Pv c env S (eBin dAdd a b) (.str (x ++ y)) := pv_bin ha hb fun _ => add_s h
theorem pv_mod {a b : Ev} {i j : Int} (ha : Pv c env S a (.int i)) (hb : Pv c env S b (.int j)) (hj : 0 < j) : Pv c env S (eBin dMod a b) (.int (i.fmod j)) := pv_bin ha hb fun S1 => by
  unfold dMod
  dsimp only
  rw [Nat.blt_eq.mpr (by omega)]
theorem pv_div {a b : Ev} {i j : Int} (ha : Pv c env S a (.int i)) (hb : Pv c env S b (.int j)) (hj : 0 < j) (hj2 : j < 1073741824) : Pv c env S (eBin dDiv a b) (.int (i.fdiv j)) := pv_bin ha hb fun S1 => by
  unfold dDiv
  dsimp only
  rw [Nat.blt_eq.mpr (show 0 < j.natAbs by omega), Nat.blt_eq.mpr (show j.natAbs < 1073741824 by omega)]
  rfl
theorem pv_mulc {a b : Ev} {i j : Int} (ha : Pv c env S a (.int i)) (hb : Pv c env S b (.int j)) (h : small64 i = true) : Pv c env S (eBin dMul a b) (.int (i * j)) := pv_bin ha hb fun S1 => by
  unfold dMul
  dsimp only
  rw [h]
  rfl
theorem pv_addi {a b : Ev} {i j : Int} (ha : Pv c env S a (.int i)) (hb : Pv c env S b (.int j)) : Pv c env S (eBin dAdd a b) (.int (i + j)) := pv_bin ha hb fun _ => rfl
theorem pv_subi {a b : Ev} {i j : Int} (ha : Pv c env S a (.int i)) (hb : Pv c env S b (.int j)) : Pv c env S (eBin dSub a b) (.int (i - j)) := pv_bin ha hb fun _ => rfl
end
/-- digits, each below its size -/
def Dig (L : List Int) (zs : List Int) : Prop := L.length = zs.length ∧ ∀ (i : Nat) (x z : Int), L[i]? = some x → zs[i]? = some z → 0 ≤ x ∧ x < z
theorem ixD_nat {xs : List D} {i : Nat} : ixD xs (i : Int) = xs[i]? := rfl
theorem ix_int {L : List Int} {i : Nat} {x : Int} (h : L[i]? = some x) : ixD (L.map D.int) (i : Int) = some (.int x) := by
  rw [ixD_nat, List.getElem?_map, h]; rfl
/-! deeds drawn -/
def nmA (i : Nat) : List Nat := [[97], [98], [98, 111, 111, 107], [122, 122, 122, 122, 122, 122, 122, 122]].getD i []
def nuA (i : Nat) : Int := [0, 1, -1, 7, 12, 1000000000000, -1000000000000].getD i 0
def woA (i : Nat) : List Nat := [sPut, sAdd, sAdd, sDrop].getD i []
def deedA (a b e : Int) : D := if woA (e.fmod 4).toNat = sDrop then .tup true [.str (woA (e.fmod 4).toNat), .str (nmA (a.fmod 4).toNat)] else .tup true [.str (woA (e.fmod 4).toNat), .str (nmA (a.fmod 4).toNat), .int (nuA (b.fmod 7).toNat)]
theorem fmod_lt (i : Int) {j : Int} (h : 0 < j) : 0 ≤ i.fmod j ∧ i.fmod j < j := ⟨Int.fmod_nonneg_of_pos i h, Int.fmod_lt_of_pos i h⟩
theorem deedA_ok (a b e : Int) : DeedC (deedA a b e) := by
  have h1 := fmod_lt a (j := 4) (by decide)
  have h2 := fmod_lt b (j := 7) (by decide)
  have h3 := fmod_lt e (j := 4) (by decide)
  have c1 : (a.fmod 4).toNat < 4 := by omega
  have c2 : (b.fmod 7).toNat < 7 := by omega
  have c3 : (e.fmod 4).toNat < 4 := by omega
  unfold deedA
  generalize (a.fmod 4).toNat = x at c1 ⊢
  generalize (b.fmod 7).toNat = y at c2 ⊢
  generalize (e.fmod 4).toNat = z at c3 ⊢
  have all : ∀ x < 4, ∀ y < 7, ∀ z < 4, deedB (if woA z = sDrop then .tup true [.str (woA z), .str (nmA x)] else .tup true [.str (woA z), .str (nmA x), .int (nuA y)]) = true := by decide +kernel
  refine ⟨all x c1 y c2 z c3, ?_⟩
  split
  · exact ⟨_, rfl⟩
  · exact ⟨_, rfl⟩
section
variable {S : Sto} {n : Nat} {d : D} {t : Tyn}
theorem v_law_deed {p : Po} {k : Nat} {L : List Int} {a b e : Int} (hp : S.get p = some (.lst k (L.map .int))) (h0 : L[0]? = some a) (h1 : L[1]? = some b) (h2 : L[2]? = some e) : Fv (cal (n + 1)) 302 [.obj p] S (deedA a b e) := by
  have f1 := fmod_lt a (j := 4) (by decide)
  have f2 := fmod_lt b (j := 7) (by decide)
  have f3 := fmod_lt e (j := 4) (by decide)
  have g1 : ∃ x : Nat, a.fmod 4 = x ∧ x < 4 := ⟨(a.fmod 4).toNat, by omega, by omega⟩
  have g2 : ∃ x : Nat, b.fmod 7 = x ∧ x < 7 := ⟨(b.fmod 7).toNat, by omega, by omega⟩
  have g3 : ∃ x : Nat, e.fmod 4 = x ∧ x < 4 := ⟨(e.fmod 4).toNat, by omega, by omega⟩
  obtain ⟨x, ex, hx⟩ := g1
  obtain ⟨y, ey, hy⟩ := g2
  obtain ⟨z, ez, hz⟩ := g3
  have v1 : deedA a b e = if woA z = sDrop then .tup true [.str (woA z), .str (nmA x)] else .tup true [.str (woA z), .str (nmA x), .int (nuA y)] := by
    unfold deedA
    rw [ex, ey, ez]; rfl
  rw [v1]
  refine fv_body (c := cal n) (fun _ _ => rfl) ?_
  refine ps_seq (env1 := [some (.obj p), some (.str (nmA x)), none, none]) (ps_set (pv_ixn (pl_lst (pa_c pv_c (pa_c pv_c (pa_c pv_c (pa_c pv_c pa_n)))) (of_decide_eq_true rfl)) (pv_mod (pv_ixo (pv_var rfl) hp pv_c (ix_int (i := 0) h0)) pv_c (by decide)) ?_) fun _ => rfl) ?_
  · rw [ex]
    match x, hx with
    | 0, _ => rfl
    | 1, _ => rfl
    | 2, _ => rfl
    | 3, _ => rfl
  refine ps_seq (env1 := [some (.obj p), some (.str (nmA x)), some (.int (nuA y)), none]) (ps_set (pv_ixn (xs := [.int 0, .int 1, .int (-1), .int 7, .int 12, .int 1000000000000, .int (-1000000000000)]) (pl_lst (pa_c pv_c (pa_c pv_c (pa_c (pv_neg pv_c) (pa_c pv_c (pa_c pv_c (pa_c (pv_bin pv_c pv_c fun _ => rfl) (pa_c (pv_neg (pv_bin pv_c pv_c fun _ => rfl)) pa_n))))))) (of_decide_eq_true rfl)) (pv_mod (pv_ixo (pv_var rfl) hp pv_c (ix_int (i := 1) h1)) pv_c (by decide)) ?_) fun _ => rfl) ?_
  · rw [ey]
    match y, hy with
    | 0, _ => rfl
    | 1, _ => rfl
    | 2, _ => rfl
    | 3, _ => rfl
    | 4, _ => rfl
    | 5, _ => rfl
    | 6, _ => rfl
  refine ps_seq (env1 := [some (.obj p), some (.str (nmA x)), some (.int (nuA y)), some (.str (woA z))]) (ps_set (pv_ixn (pl_lst (pa_c pv_c (pa_c pv_c (pa_c pv_c (pa_c pv_c pa_n)))) (of_decide_eq_true rfl)) (pv_mod (pv_ixo (pv_var rfl) hp pv_c (ix_int (i := 2) h2)) pv_c (by decide)) ?_) fun _ => rfl) ?_
  · rw [ez]
    match z, hz with
    | 0, _ => rfl
    | 1, _ => rfl
    | 2, _ => rfl
    | 3, _ => rfl
  refine ps_ifr (pt_of (pv_bin (pv_var rfl) pv_c fun _ => eq_s)) (fun hk => ?_) fun hk => ps_fin ?_
  · exact Pv.to (pv_tup (pa_c (pv_var rfl) (pa_c (pv_var rfl) pa_n)) (of_decide_eq_true rfl)) (by rw [if_pos (show woA z = sDrop from of_decide_eq_true hk)])
  · exact Pv.to (pv_tup (pa_c (pv_var rfl) (pa_c (pv_var rfl) (pa_c (pv_var rfl) pa_n))) (of_decide_eq_true rfl)) (by rw [if_neg (show ¬ woA z = sDrop from of_decide_eq_false hk)])
/-! asks drawn -/
def stA (i : Nat) : Int := [1, 2, 1000000000].getD i 1
def askA (a b e f g : Int) : D := .tup true [.int g, .int (stA (f.fmod 3).toNat), if f = 0 then .tup true [.str sSwap, .int b, .int (10 + e)] else deedA a b e]
theorem askA_ok {a b e f g : Int} (hb : 0 ≤ b ∧ b < 7) (he : 0 ≤ e ∧ e < 4) (hg : 0 ≤ g ∧ g < 10) : AskC (askA a b e f g) := by
  have f3 := fmod_lt f (j := 3) (by decide)
  have c3 : (f.fmod 3).toNat < 3 := by omega
  have hs : ∀ z < 3, 1 ≤ stA z ∧ stA z ≤ 1000000000 := by decide
  have h3 := hs _ c3
  have hd : DeedC (if f = 0 then .tup true [.str sSwap, .int b, .int (10 + e)] else deedA a b e) := by
    split
    · refine ⟨?_, _, rfl⟩
      have : deedB (.tup true [.str sSwap, .int b, .int (10 + e)]) = (frmB 0 30 (.int b) && (frmB 0 30 (.int (10 + e)) && !feq (.int b) (.int (10 + e)))) := by
        simp [deedB, sSwap, sPut, sAdd]
      rw [this]
      have e1 : feq (.int b) (.int (10 + e)) = false := by
        show ieq b (10 + e) = false
        rw [ieq_dec]; exact decide_eq_false (by omega)
      rw [e1]
      simp only [frmB, Bool.and_eq_true, decide_eq_true_eq, Bool.not_false]
      refine ⟨⟨?_, ?_⟩, ⟨?_, ?_⟩, trivial⟩ <;> omega
    · exact deedA_ok a b e
  refine .inr ⟨_, _, _, rfl, ?_, hd⟩
  show (frmB 0 9 (.int g) && (frmB 1 1000000000 (.int _) && deedB _)) = true
  rw [hd.1]
  simp only [frmB, Bool.and_eq_true, decide_eq_true_eq, Bool.and_true]
  exact ⟨⟨hg.1, by omega⟩, h3⟩
theorem v_law_ask_of {p : Po} {k : Nat} {L : List Int} {a b e f g : Int} (hp : S.get p = some (.lst k (L.map .int))) (h0 : L[0]? = some a) (h1 : L[1]? = some b) (h2 : L[2]? = some e) (h3 : L[3]? = some f) (h4 : L[4]? = some g) : Fv (cal (n + 2)) 303 [.obj p] S (askA a b e f g) := by
  have f3 := fmod_lt f (j := 3) (by decide)
  obtain ⟨z, ez, hz⟩ : ∃ x : Nat, f.fmod 3 = x ∧ x < 3 := ⟨(f.fmod 3).toNat, by omega, by omega⟩
  refine fv_body (c := cal (n + 1)) (fun _ _ => rfl) (ps_seq (ps_set (pv_call (pa_c (pv_var rfl) pa_n) (v_law_deed (n := n) hp h0 h1 h2)) fun _ => rfl) ?_)
  have fin : Ps (cal (n + 1)) [some (.obj p), some (if f = 0 then .tup true [.str sSwap, .int b, .int (10 + e)] else deedA a b e)] S (sSeq (sRet (eTup (aCons (eBin dSub' (eVar 0) (eC (.int (4)))) (aCons (eBin dSub' (eLst (aCons (eC (.int (1))) (aCons (eC (.int (2))) (aCons (eBin dPow (eC (.int (10))) (eC (.int (9)))) aNil)))) (eBin dMod (eBin dSub' (eVar 0) (eC (.int (3)))) (eC (.int (3))))) (aCons (eVar 1) aNil))))) sNil) (.rt (askA a b e f g)) := by
    refine ps_fin (Pv.to (pv_tup (pa_c (pv_ixo (pv_var rfl) hp pv_c (ix_int (i := 4) h4)) (pa_c (pv_ixn (xs := [.int 1, .int 2, .int 1000000000]) (d := .int (stA z)) (pl_lst (pa_c pv_c (pa_c pv_c (pa_c (pv_bin pv_c pv_c fun _ => rfl) pa_n))) (of_decide_eq_true rfl)) (pv_mod (pv_ixo (pv_var rfl) hp pv_c (ix_int (i := 3) h3)) pv_c (by decide)) ?_) (pa_c (pv_var rfl) pa_n))) (of_decide_eq_true rfl)) ?_)
    · rw [ez]
      match z, hz with
      | 0, _ => rfl
      | 1, _ => rfl
      | 2, _ => rfl
    · unfold askA
      rw [ez]; rfl
  refine ps_iff (pt_of (pv_bin (pv_ixo (pv_var rfl) hp pv_c (ix_int (i := 3) h3)) pv_c fun _ => eq_i)) (fun hk => ?_) fun hk => ?_
  · refine ps_seq (ps_seq (ps_set (pv_tup (pa_c pv_c (pa_c (pv_ixo (pv_var rfl) hp pv_c (ix_int (i := 1) h1)) (pa_c (pv_addi pv_c (pv_ixo (pv_var rfl) hp pv_c (ix_int (i := 2) h2))) pa_n))) (of_decide_eq_true rfl)) fun _ => ?_) ps_nil) fin
    rw [if_pos (of_decide_eq_true hk)]; rfl
  · rw [sSeq_nil]
    rw [if_neg (of_decide_eq_false hk)] at fin
    exact fin
/-! texts as the law writes them -/
theorem v_law_ask_text (h : AskOk d) : Fv (cal (n + 1)) 304 [d] S (.str (askT d)) := by
  refine fv_body (c := cal n) (fun _ _ => rfl) ?_
  rcases h with rfl | h
  · exact ps_ifr (k := true) (pt_of (pv_bin (pv_var rfl) pv_c fun _ => rfl)) (fun _ => pv_c) fun h => by cases h
  · obtain ⟨q, a, s, e, rfl, h1, h2, h3, h4, h5⟩ := ask_form h
    obtain ⟨q2, xs, rfl, hw, hl, h6, h7⟩ := deed_words h5
    obtain ⟨s1, s2⟩ := small_len (i := a) h1 (by omega)
    obtain ⟨s3, s4⟩ := small_len (i := s) (by omega) h4
    refine ps_ifr (k := false) (pt_of (pv_bin (pv_var rfl) pv_c fun _ => rfl)) (fun h => by cases h) fun _ => ps_fin (Pv.to (pv_adds (pv_adds (pv_adds (pv_adds (pv_b (pa_c (pv_bin (pv_var rfl) pv_c fun _ => ix_t rfl) pa_n) fun _ => str_i s1) pv_c ?_) (pv_b (pa_c (pv_bin (pv_var rfl) pv_c fun _ => ix_t rfl) pa_n) fun _ => str_i s3) ?_) pv_c ?_)
      (pv_join (x := [32]) pv_c (pl_lc (f := fun x => .str (strOf x)) (pi_tup (pv_bin (pv_var rfl) pv_c fun _ => ix_t rfl)) (fun x hx => ⟨_, fun _ => rfl, pv_b (pa_c (pv_var rfl) pa_n) fun _ => str_w (hw x hx)⟩) (by unfold big; omega)) (mapO_strD _ _) ?_) ?_) ?_)
    all_goals try simp only [List.length_append, List.length_cons, List.length_nil, List.length_map]
    all_goals first
      | (unfold big; omega)
      | (simp [askT, deedT]; done)
theorem v_law_row_text {p : Po} {m : Nat} {rows : List D} (hp : S.get p = some (.lst m rows)) (hr : ∀ r ∈ rows, RowOk r) (hl : rows.length ≤ 10000) : Fv (cal (n + 2)) 305 [.obj p] S (.str (TL.joinL [10] (rows.map rowT))) := by
  refine fv_body (c := cal (n + 1)) (fun _ _ => rfl) (ps_fin (pv_join (x := [10]) pv_c (pl_lc (f := fun x => .str (rowT x)) (pi_obj (pv_var rfl) fun S1 l => seqD_lst (l.get hp)) (fun x hx => ?_) (by unfold big; omega)) (mapO_strD _ _) ?_))
  · obtain ⟨q, a, b, k, rfl, h1, h2, h3, h4, h5⟩ := hr x hx
    have := askT_len' h5
    obtain ⟨s1, s2⟩ := small_len h1 h2
    obtain ⟨s3, s4⟩ := small_len (i := b) h3 (by omega)
    refine ⟨_, fun _ => rfl, Pv.to (pv_adds (pv_adds (pv_adds (pv_adds (pv_b (pa_c (pv_var rfl) pa_n) fun _ => str_i s1) pv_c ?_) (pv_b (pa_c (pv_var rfl) pa_n) fun _ => str_i s3) ?_) pv_c ?_) (pv_call (pa_c (pv_var rfl) pa_n) (v_law_ask_text (n := n) h5)) ?_) ?_⟩
    all_goals try simp only [List.length_append, List.length_cons, List.length_nil, List.length_map]
    all_goals first
      | (unfold big; omega)
      | (simp [rowT]; done)
  · have := sums_le (m := 100) (ps := rows.map rowT) fun p hp => by
      obtain ⟨r, hr1, rfl⟩ := List.mem_map.mp hp
      exact rowT_len (hr r hr1)
    rw [List.length_map] at this ⊢
    show _ + rows.length * 1 ≤ big
    unfold big
    omega
theorem v_law_word (h : ansB d = true) (hs : ∀ i, d = .int i → shortI i = true) : Fv (cal (n + 1)) 306 [d] S (.str (ansT d)) := by
  refine fv_body (c := cal n) (fun _ _ => rfl) ?_
  cases d with
  | non => exact ps_ifr (k := true) (pt_of (pv_bin (pv_var rfl) pv_c fun _ => rfl)) (fun _ => pv_c) fun h => by cases h
  | bl b =>
    refine ps_ifr (k := false) (pt_of (pv_bin (pv_var rfl) pv_c fun _ => rfl)) (fun h => by cases h) fun _ => ps_ifr (k := true) (pt_of (Pv.to (pv_is (t := .bl) (pv_var rfl) (tys_of rfl)) rfl)) (fun _ => ?_) fun h => by cases h
    refine pv_ixn (pl_lst (pa_c pv_c (pa_c pv_c pa_n)) (of_decide_eq_true rfl)) (pv_b (pa_c (pv_var rfl) pa_n) fun _ => rfl) ?_
    cases b <;> rfl
  | int i =>
    exact ps_ifr (k := false) (pt_of (pv_bin (pv_var rfl) pv_c fun _ => rfl)) (fun h => by cases h) fun _ => ps_ifr (k := false) (pt_of (Pv.to (pv_is (t := .int) (pv_var rfl) (tys_of rfl)) rfl)) (fun h => by cases h) fun _ => ps_fin (pv_b (pa_c (pv_var rfl) pa_n) fun _ => str_i (hs i rfl))
  | _ => cases h
end
end Ev
set_option Elab.async false
set_option linter.all false
set_option maxRecDepth 100000
set_option maxHeartbeats 0
namespace Ev
open PySem
/-! ### digits drawn -/
def digF (wide : Bool) : Nat → Int → Int → List Int → List Int
  | _, _, _, [] => []
  | k, num, seed, z :: zs => if wide = true ∧ 0 < num then num.fmod z :: digF wide (k + 1) (num.fdiv z) seed zs else
      ((((seed + 104729 * ((k : Int) + 1)) ^ 2).fmod 2147483587).fdiv 16).fmod z :: digF wide (k + 1) num (((seed + 104729 * ((k : Int) + 1)) ^ 2).fmod 2147483587) zs
def absI (i : Int) : Int := if i < 0 then -i else i
def digs (cell turn : Int) (zs : List Int) : List Int := digF (decide (10 ^ 18 ≤ absI cell)) 0 (absI cell) ((absI cell).fmod 2147483647 + 7919 * turn) zs
theorem digF_dig (wide : Bool) : ∀ (zs : List Int) (k : Nat) (num seed : Int), (∀ z ∈ zs, 0 < z) → Dig (digF wide k num seed zs) zs
  | [], _, _, _, _ => ⟨rfl, fun i x z h => by simp [digF] at h⟩
  | z :: zs, k, num, seed, h => by
    have hz := h z (by simp)
    have key : ∀ (x : Int) (L : List Int), 0 ≤ x → x < z → Dig L zs → Dig (x :: L) (z :: zs) := fun x L h1 h2 h3 => by
      refine ⟨by simp [h3.1], fun i y w hy hw => ?_⟩
      cases i with
      | zero => simp at hy hw; subst hy; subst hw; exact ⟨h1, h2⟩
      | succ i => exact h3.2 i y w (by simpa using hy) (by simpa using hw)
    unfold digF
    split
    · exact key _ _ (fmod_lt _ hz).1 (fmod_lt _ hz).2 (digF_dig wide zs _ _ _ fun w hw => h w (List.mem_cons_of_mem _ hw))
    · exact key _ _ (fmod_lt _ hz).1 (fmod_lt _ hz).2 (digF_dig wide zs _ _ _ fun w hw => h w (List.mem_cons_of_mem _ hw))
theorem digs_dig {cell turn : Int} {zs : List Int} (h : ∀ z ∈ zs, 0 < z) : Dig (digs cell turn zs) zs := digF_dig _ zs _ _ _ h
section
variable {S : Sto} {n : Nat} {d : D} {t : Tyn}
theorem pv_abs {c : Cal} {env : Slots} {a : Ev} {i : Int} (h : Pv c env S a (.int i)) : Pv c env S (eB bAbs (aCons a aNil)) (.int (absI i)) := pv_b (pa_c h pa_n) fun _ => rfl
theorem pv_sq {c : Cal} {env : Slots} {a : Ev} {i : Int} (h : Pv c env S a (.int i)) (hs : small64 i = true) : Pv c env S (eBin dPow a (eC (.int 2))) (.int (i ^ 2)) := pv_bin h pv_c fun S1 => by
  show (match Nat.ble 2 1000000 && small64 i with | true => Rs.ok (D.int (i ^ 2)) S1 | false => .no) = _
  rw [hs]; rfl
theorem v_law_digits {p : Po} {m : Nat} {cell turn : Int} {zs : List Int} (hp : S.get p = some (.lst m (zs.map .int))) (hz : ∀ z ∈ zs, 0 < z ∧ z < 1073741824) (ht : 0 ≤ turn ∧ turn ≤ 1000) (hl : zs.length ≤ 1000) : Fl (cal (n + 1)) 301 [.int cell, .int turn, .obj p] S ((digs cell turn zs).map .int) := by
  refine fl_body (c := cal n) (fun _ _ => rfl) ?_
  have hm0 := fmod_lt (absI cell) (j := 2147483647) (by decide)
  refine psl_seq (ps_set (pv_abs (pv_var rfl)) fun _ => rfl) (psl_seq (ps_set (pv_bin (pv_var rfl) (y := .int 1000000000000000000) (pv_bin pv_c pv_c fun _ => rfl) fun _ => ge_i) fun _ => rfl) (psl_seq (ps_set (pv_addi (pv_mod (pv_var rfl) pv_c (by decide)) (pv_mulc pv_c (pv_var rfl) rfl)) fun _ => rfl) ?_))
  intro S1 l1
  have l2 := le_add (o := .lst 0 []) l1.wf
  have a2 : Acc S1 S1.nx [] (S1.add (.lst 0 [])) := ⟨l2, Nat.le_refl _, add_get⟩
  have hp1 : S1.get p = some (.lst m (zs.map .int)) := l1.get hp
  have ne : p ≠ S1.nx := fun e => by rw [e, l1.wf.nx_none] at hp1; cases hp1
  have hw : decide (((1000000000000000000 : Int)) ≤ absI cell) = decide (10 ^ 18 ≤ absI cell) := rfl
  generalize hwd : decide (((1000000000000000000 : Int)) ≤ absI cell) = wide at hw
  have hT : digs cell turn zs = digF wide 0 (absI cell) ((absI cell).fmod 2147483647 + 7919 * turn) zs := by unfold digs; rw [hw]
  generalize digs cell turn zs = T at hT ⊢
  have hp2 := l2.get hp1
  generalize hq : S1.nx = q at a2 ne
  let I : Nat → Slots → Sto → Prop := fun i env S' => ∃ num seed o7 o8 L, env = [some (.int cell), some (.int turn), some (.obj p), some (.int num), some (.bl wide), some (.int seed), some (.obj q), o7, o8] ∧ 0 ≤ seed ∧ seed ≤ 4294967296 ∧ Acc S1 q (L.map D.int) S' ∧ L.length = i ∧ T = L ++ digF wide i num seed (zs.drop i) ∧ S'.get p = some (.lst m (zs.map .int))
  have hlm : (enmL (zs.map D.int)).length = zs.length := by rw [enmL_len, List.length_map]
  have key := for_inv (c := cal n) (z := .enm p) (g := gT [(gN 7), (gN 8)]) (b := (sSeq (sIf (tAnd' (tOf (eVar 4)) (tOf (eBin dGt (eVar 3) (eC (.int (0))))))
 (sSeq (sX (eBM isLstD mAppend (eVar 6) (aCons (eBin dMod (eVar 3) (eVar 8)) aNil)))
 (sSeq (sSet (gN 3) (eBin dDiv (eVar 3) (eVar 8)))
 sNil))
 (sSeq (sSet (gN 5) (eBin dMod (eBin dPow (eBin dAdd (eVar 5) (eBin dMul (eC (.int (104729))) (eBin dAdd (eVar 7) (eC (.int (1)))))) (eC (.int (2)))) (eC (.int (2147483587)))))
 (sSeq (sX (eBM isLstD mAppend (eVar 6) (aCons (eBin dMod (eBin dDiv (eVar 5) (eC (.int (16)))) (eVar 8)) aNil)))
 sNil)))
 sNil)) (xs := enmL (zs.map .int)) I (fun _ => False) (fun i env S' h => by
    obtain ⟨num, seed, o7, o8, L, rfl, _, _, a, _, _, g⟩ := h
    exact at_enm (seqD_lst g) a.le.wf) (fun i hi env S' hI => ?_) (Iz.fuel (.enm p) (S1.add (.lst 0 []))) 0 [some (.int cell), some (.int turn), some (.obj p), some (.int (absI cell)), some (.bl wide), some (.int ((absI cell).fmod 2147483647 + 7919 * turn)), some (.obj q), none, none] (S1.add (.lst 0 []))
      ⟨_, _, _, _, [], rfl, by omega, by omega, a2, rfl, by rw [hT]; rfl, hp2⟩ ?_ (Nat.zero_le _)
  · rcases key with ⟨env2, S4, e4, ⟨num, seed, o7, o8, L, rfl, _, _, a4, hL, hT2, g4⟩⟩ | ⟨h, _⟩
    · rw [hlm] at hL hT2
      rw [List.drop_length] at hT2
      have hT3 : T = L := by rw [hT2]; simp [digF]
      rw [hT3]
      refine ⟨q, S4, ?_, a4.le, a4.at_, by rw [← hq]; exact Nat.le_refl _⟩
      have rf : iEnm (aCons (eVar 2) aNil) (cal n) [some (.int cell), some (.int turn), some (.obj p), some (.int (absI cell)), some (.bl wide), some (.int ((absI cell).fmod 2147483647 + 7919 * turn)), some (.obj q), none, none] (S1.add (.lst 0 [])) = .ok (.enm p) (S1.add (.lst 0 [])) := by
        show (match seqD (.obj p) (S1.add (.lst 0 [])) with | some _ => Rs.ok (Iz.enm p) (S1.add (.lst 0 [])) | none => .no) = _
        rw [seqD_lst hp2]
      refine (sSeq_run (run_new l1.wf)).trans ?_
      show sSeq _ _ (cal n) [some (.int cell), some (.int turn), some (.obj p), some (.int (absI cell)), some (.bl wide), some (.int ((absI cell).fmod 2147483647 + 7919 * turn)), some (.obj S1.nx), none, none] (S1.add (.lst 0 [])) = _
      rw [hq]
      exact (sSeq_run ((run_for (z := .enm p) (S1 := S1.add (.lst 0 [])) rf).trans (e4 : _ = Rt.nx [some (.int cell), some (.int turn), some (.obj p), some (.int num), some (.bl wide), some (.int seed), some (.obj q), o7, o8] S4))).trans rfl
    · exact h.elim
  · obtain ⟨num, seed, o7, o8, L, rfl, s0, s1, a4, hL, hT2, g4⟩ := hI
    have hi2 : i < zs.length := by rw [hlm] at hi; exact hi
    have hx : (enmL (zs.map D.int))[i]'hi = .tup true [.int (.ofNat i), .int zs[i]] := by
      rw [enmL_get (xs := zs.map D.int) (by rw [List.length_map]; exact hi2) hi, List.getElem_map]
    obtain ⟨hz0, hz1⟩ := hz zs[i] (List.getElem_mem hi2)
    have hd : zs.drop i = zs[i] :: zs.drop (i + 1) := List.drop_eq_getElem_cons hi2
    refine ⟨[some (.int cell), some (.int turn), some (.obj p), some (.int num), some (.bl wide), some (.int seed), some (.obj q), some (.int (.ofNat i)), some (.int zs[i])], S', by rw [hx]; rfl, .inl ?_⟩
    have hap : ∀ (env : Slots) (e : Ev) (d : Int) (S5 : Sto), env[6]? = some (some (.obj q)) → Pv (cal n) env S5 e (.int d) → Acc S1 q (L.map D.int) S5 → S5.get p = some (.lst m (zs.map .int)) → ∃ S6, sX (eBM isLstD mAppend (eVar 6) (aCons e aNil)) (cal n) env S5 = .nx env S6 ∧ Acc S1 q ((L ++ [d]).map D.int) S6 ∧ S6.get p = some (.lst m (zs.map .int)) := fun env e d S5 h6 he a5 g5 => by
      obtain ⟨S6, e6, l6⟩ := he S5 (.refl a5.le.wf)
      have a6 := a5.mono l6
      refine ⟨_, run_append (i := 6) h6 a5.at_ (by rw [List.length_map]; unfold big; omega) e6 l6, ?_, ?_⟩
      · have e : L.map D.int ++ [D.int d] = (L ++ [d]).map D.int := by simp
        rw [e]
        exact a6.push
      · rw [Sto.put_ne ne]; exact l6.get g5
    by_cases hc : wide = true ∧ 0 < num
    · have ht : Pt (cal n) [some (.int cell), some (.int turn), some (.obj p), some (.int num), some (.bl wide), some (.int seed), some (.obj q), some (.int (.ofNat i)), some (.int zs[i])] S' (tAnd' (tOf (eVar 4)) (tOf (eBin dGt (eVar 3) (eC (.int (0)))))) true :=
        (pt_and (pt_of (pv_var rfl)) fun _ => pt_of (pv_bin (pv_var rfl) pv_c fun _ => gt_i)).to (by rw [hc.1, decide_eq_true hc.2]; rfl)
      obtain ⟨S5, e5, l5⟩ := ht S' (.refl a4.le.wf)
      obtain ⟨S6, e6, a6, g6⟩ := hap [some (.int cell), some (.int turn), some (.obj p), some (.int num), some (.bl wide), some (.int seed), some (.obj q), some (.int (.ofNat i)), some (.int zs[i])] (eBin dMod (eVar 3) (eVar 8)) (num.fmod zs[i]) S5 rfl (pv_mod (pv_var rfl) (pv_var rfl) hz0) (a4.mono l5) (l5.get g4)
      obtain ⟨S7, e7, l7⟩ := (ps_set (c := cal n) (env := [some (.int cell), some (.int turn), some (.obj p), some (.int num), some (.bl wide), some (.int seed), some (.obj q), some (.int (.ofNat i)), some (.int zs[i])]) (S := S6) (g := gN 3) (pv_div (a := eVar 3) (b := eVar 8) (pv_var rfl) (pv_var rfl) hz0 hz1) fun _ => rfl) S6 (.refl a6.le.wf)
      refine ⟨[some (.int cell), some (.int turn), some (.obj p), some (.int (num.fdiv zs[i])), some (.bl wide), some (.int seed), some (.obj q), some (.int (.ofNat i)), some (.int zs[i])], S7, .inl ?_, num.fdiv zs[i], seed, _, _, L ++ [num.fmod zs[i]], rfl, s0, s1, a6.mono l7, by simp [hL], ?_, l7.get g6⟩
      · refine (sSeq_run (env1 := [some (.int cell), some (.int turn), some (.obj p), some (.int (num.fdiv zs[i])), some (.bl wide), some (.int seed), some (.obj q), some (.int (.ofNat i)), some (.int zs[i])]) (S2 := S7) ?_).trans rfl
        unfold sIf
        rw [e5]
        exact (sSeq_run e6).trans ((sSeq_run e7).trans rfl)
      · rw [hT2, hd]
        show L ++ digF wide i num seed (zs[i] :: zs.drop (i + 1)) = _
        rw [show digF wide i num seed (zs[i] :: zs.drop (i + 1)) = num.fmod zs[i] :: digF wide (i + 1) (num.fdiv zs[i]) seed (zs.drop (i + 1)) from by rw [digF, if_pos hc]]
        simp
    · have ht : Pt (cal n) [some (.int cell), some (.int turn), some (.obj p), some (.int num), some (.bl wide), some (.int seed), some (.obj q), some (.int (.ofNat i)), some (.int zs[i])] S' (tAnd' (tOf (eVar 4)) (tOf (eBin dGt (eVar 3) (eC (.int (0)))))) false := by
        refine (pt_and (pt_of (pv_var rfl)) fun _ => pt_of (pv_bin (pv_var rfl) pv_c fun _ => gt_i)).to ?_
        cases hwide : wide with
        | false => rfl
        | true => rw [decide_eq_false (fun z => hc ⟨hwide, z⟩)]; rfl
      obtain ⟨S5, e5, l5⟩ := ht S' (.refl a4.le.wf)
      have hsm : small64 (seed + 104729 * ((Int.ofNat i) + 1)) = true := by
        unfold small64
        refine Nat.blt_eq.mpr ?_
        have : (Int.ofNat i) = (i : Int) := rfl
        omega
      obtain ⟨S6, e6, l6⟩ := (ps_set (c := cal n) (env := [some (.int cell), some (.int turn), some (.obj p), some (.int num), some (.bl wide), some (.int seed), some (.obj q), some (.int (.ofNat i)), some (.int zs[i])]) (S := S5) (g := gN 5) (pv_mod (pv_sq (a := (eBin dAdd (eVar 5) (eBin dMul (eC (.int (104729))) (eBin dAdd (eVar 7) (eC (.int (1))))))) (pv_addi (pv_var rfl) (pv_mulc pv_c (pv_addi (pv_var rfl) pv_c) rfl)) hsm) (b := eC (.int 2147483587)) pv_c (by decide)) fun _ => rfl) S5 (.refl l5.wf)
      have hs2 := fmod_lt ((seed + 104729 * ((Int.ofNat i) + 1)) ^ 2) (j := 2147483587) (by decide)
      obtain ⟨S7, e7, a7, g7⟩ := hap [some (.int cell), some (.int turn), some (.obj p), some (.int num), some (.bl wide), some (.int (((seed + 104729 * ((Int.ofNat i) + 1)) ^ 2).fmod 2147483587)), some (.obj q), some (.int (.ofNat i)), some (.int zs[i])] (eBin dMod (eBin dDiv (eVar 5) (eC (.int (16)))) (eVar 8)) _ S6 rfl (pv_mod (pv_div (pv_var rfl) pv_c (by decide) (by decide)) (pv_var rfl) hz0) (a4.mono (l5.trans l6)) ((l5.trans l6).get g4)
      refine ⟨[some (.int cell), some (.int turn), some (.obj p), some (.int num), some (.bl wide), some (.int (((seed + 104729 * ((Int.ofNat i) + 1)) ^ 2).fmod 2147483587)), some (.obj q), some (.int (.ofNat i)), some (.int zs[i])], S7, .inl ?_, num, _, _, _, L ++ [_], rfl, hs2.1, by omega, a7, by simp [hL], ?_, g7⟩
      · refine (sSeq_run (env1 := [some (.int cell), some (.int turn), some (.obj p), some (.int num), some (.bl wide), some (.int (((seed + 104729 * ((Int.ofNat i) + 1)) ^ 2).fmod 2147483587)), some (.obj q), some (.int (.ofNat i)), some (.int zs[i])]) (S2 := S7) ?_).trans rfl
        unfold sIf
        rw [e5]
        exact (sSeq_run e6).trans ((sSeq_run e7).trans rfl)
      · rw [hT2, hd]
        show L ++ digF wide i num seed (zs[i] :: zs.drop (i + 1)) = _
        rw [digF, if_neg hc]
        simp
  · show _ < Iz.fuel (.enm p) (S1.add (.lst 0 [])) + 0
    unfold Iz.fuel
    dsimp only
    rw [seqD_lst hp2, hlm]
    show zs.length < (zs.map D.int).length + 1 + 0
    rw [List.length_map]
    omega
end
end Ev
set_option Elab.async false
set_option linter.all false
set_option maxRecDepth 100000
set_option maxHeartbeats 0
namespace Ev
open PySem
local macro_rules
  | `(tactic| nofun) => `(tactic| first
    | exact pv_var rfl
    | exact pv_c
    | exact pa_n
    | exact pt_yes
    | exact po_no
    | assumption
    | (with_reducible apply po_part
       nofun)
    | (with_reducible apply pa_c
       · nofun
       · nofun)
    | (with_reducible apply pt_of
       nofun)
    | (with_reducible apply pt_not
       nofun)
    | (with_reducible apply pt_or_t
       with_reducible apply Pt.to
       · nofun
       · first | rfl | (simp [*]; done))
    | (with_reducible apply pt_or
       · nofun
       · (intro _
          nofun))
    | (with_reducible apply pt_and_f
       with_reducible apply Pt.to
       · nofun
       · first | rfl | (simp [*]; done))
    | (with_reducible apply pt_and
       · nofun
       · (intro _
          nofun))
    | (with_reducible apply pv_and_f
       with_reducible apply Pv.to
       · nofun
       · first | rfl | (simp [*]; done))
    | (with_reducible apply pv_and
       · nofun
       · (intro _
          nofun))
    | (with_reducible apply pv_or_t
       with_reducible apply Pv.to
       · nofun
       · first | rfl | (simp [*]; done))
    | (with_reducible apply pv_or
       · nofun
       · (intro _
          nofun))
    | (with_reducible apply pv_not
       nofun)
    | (with_reducible apply pv_neg
       nofun)
    | (with_reducible apply pv_is
       · nofun
       · first | exact tys_of rfl | assumption)
    | (with_reducible apply pv_tup
       · nofun
       · exact of_decide_eq_true rfl)
    | (with_reducible apply pl_lst
       · nofun
       · exact of_decide_eq_true rfl)
    | (with_reducible apply pv_call
       · nofun
       · assumption)
    | (with_reducible apply pl_call
       · nofun
       · assumption)
    | (with_reducible apply pv_callK
       · nofun
       · nofun
       · assumption)
    | (with_reducible apply pv_b
       · nofun
       · first | exact fun _ => len_t | exact fun _ => len_s (by assumption) | exact fun _ => rfl)
    | (with_reducible apply pv_bS
       · nofun
       · exact fun _ l => len_l (l.get (by assumption)))
    | (with_reducible apply pv_bin
       · nofun
       · nofun
       · first | exact fun _ => le_i | exact fun _ => lt_i | exact fun _ => gt_i | exact fun _ => ge_i | exact fun _ => eq_i | exact fun _ => ne_i | exact fun _ => eq_s | exact fun _ => ne_s | exact fun _ => in_two | exact fun _ => ix_t rfl | exact fun _ => rfl)
    | (with_reducible apply pv_binS
       · nofun
       · nofun
       · exact fun _ l => ix_l (l.get (by assumption)) rfl)
    | (with_reducible apply pv_chain
       · nofun
       · nofun
       · exact fun _ => le_i
       · (intro _
          nofun)
       · exact fun _ _ => le_i)
    | (with_reducible apply pv_bm
       · nofun
       · nofun
       · exact fun _ => rfl
       · exact fun _ => rfl)
    | (with_reducible apply pv_tupl
       nofun))

theorem joinL_snoc (s w : List Nat) : ∀ {ws : List (List Nat)}, ws ≠ [] → TL.joinL s (ws ++ [w]) = TL.joinL s ws ++ (s ++ w)
  | [], h => absurd rfl h
  | [p], _ => rfl
  | p :: q :: r, _ => by
    show p ++ (s ++ TL.joinL s (q :: r ++ [w])) = _
    rw [joinL_snoc s w (List.cons_ne_nil q r)]
    simp [TL.joinL]
section
variable {c : Cal} {env : Slots} {S S0 S1 : Sto}
theorem run_putl {i k : Nat} {e : Ev} {q : Po} {xs : List D} {y : D} (hv : env[i]? = some (some (.obj q))) (hq : S.get q = some (.lst 0 xs)) (hk : k < xs.length) (he : e c env S = .ok y S1) (l : Le S S1) :
    sPutL (eVar i) (eC (.int (k : Nat))) e c env S = .nx env (S1.put q (.lst 0 (xs.set k y))) := by
  unfold sPutL eVar
  rw [he]
  show Rs.bindS ((match env[i]? with | some (some d) => Rs.ok d S1 | _ => .no)) env _ = _
  rw [hv]
  show (match S1.get q with | some (.lst 0 xs) => (match L2.ixN xs.length ((k : Nat) : Int) with | some m => Rt.nx env (S1.put q (.lst 0 (xs.set m y))) | none => .no) | _ => .no) = _
  rw [l.get hq]
  have e1 : L2.ixN xs.length ((k : Nat) : Int) = some k := by
    unfold L2.ixN
    rw [if_pos (by omega), if_pos (by omega)]
    rfl
  show (match L2.ixN xs.length ((k : Nat) : Int) with | some m => Rt.nx env (S1.put q (.lst 0 (xs.set m y))) | none => .no) = _
  rw [e1]
/-- a loop that makes one text of a list longer -/
theorem loop_rows {g : Gv} {b : Sv} {xs : List D} {q : Po} {S : Sto} (k : Nat) (f : D → List Nat) (w0 : List Nat) (cur : List (List Nat)) (J : Slots → Prop) (hk : cur[k]? = some w0) (hw : w0.length ≤ 60) (hf : ∀ x ∈ xs, (f x).length ≤ 60) (hl : xs.length ≤ 3000)
    (step : ∀ x ∈ xs, ∀ (env : Slots) (S' : Sto) (y : List Nat) (rows : List (List Nat)), J env → Acc S0 q (rows.map D.str) S' → rows[k]? = some y → y.length ≤ 200000 → ∃ env1, g x env S' = some (env1, S') ∧ J env1 ∧ ∃ S'', b c env1 S' = .nx env1 (S''.put q (.lst 0 ((rows.set k (y ++ ([32] ++ f x))).map .str))) ∧ Le S' S'')
    (hJ : J env) (hA : Acc S0 q (cur.map D.str) S) : ∃ env2 S2, forF (.tup xs) g b c (Iz.fuel (.tup xs) S) 0 env S = .nx env2 S2 ∧ J env2 ∧ Acc S0 q ((cur.set k (TL.joinL [32] (w0 :: xs.map f))).map D.str) S2 := by
  have hk2 : k < cur.length := by
    by_cases h : k < cur.length
    · exact h
    · rw [List.getElem?_eq_none (by omega)] at hk; cases hk
  have hlen : ∀ i, (TL.joinL [32] (w0 :: (xs.take i).map f)).length ≤ 200000 := fun i => (tops (ps := (xs.take i).map f) (fun p hp => by
      obtain ⟨x, hx, rfl⟩ := List.mem_map.mp hp
      exact hf x (List.mem_of_mem_take hx)) (by rw [List.length_map]; exact Nat.le_trans (List.length_take_le' _ _) hl) w0 hw).2
  have key := for_inv (c := c) (z := .tup xs) (g := g) (b := b) (xs := xs) (fun i env S' => J env ∧ Acc S0 q ((cur.set k (TL.joinL [32] (w0 :: (xs.take i).map f))).map D.str) S') (fun _ => False) (fun _ _ _ _ => rfl) (fun i hi env S' hI => by
    obtain ⟨j1, a1⟩ := hI
    obtain ⟨env1, h1, h2, S'', h3, h4⟩ := step xs[i] (List.getElem_mem hi) env S' (TL.joinL [32] (w0 :: (xs.take i).map f)) (cur.set k (TL.joinL [32] (w0 :: (xs.take i).map f))) j1 a1 (by rw [List.getElem?_set_self hk2]) (hlen i)
    refine ⟨env1, S', h1, .inl ⟨env1, _, .inl h3, h2, ?_⟩⟩
    have e : TL.joinL [32] (w0 :: (xs.take i).map f) ++ ([32] ++ f xs[i]) = TL.joinL [32] (w0 :: (xs.take (i + 1)).map f) := by
      rw [List.take_succ, List.getElem?_eq_getElem hi, List.map_append]
      exact (joinL_snoc [32] (f xs[i]) (List.cons_ne_nil w0 ((xs.take i).map f))).symm
    rw [List.set_set, e]
    exact (a1.mono h4).push) (Iz.fuel (.tup xs) S) 0 env S ⟨hJ, by
      have : cur.set k (TL.joinL [32] (w0 :: (xs.take 0).map f)) = cur := by
        refine List.ext_getElem? fun j => ?_
        by_cases hj : k = j
        · subst hj; rw [List.getElem?_set_self hk2, hk]; rfl
        · rw [List.getElem?_set_ne hj]
      rw [this]; exact hA⟩ (by show xs.length < xs.length + 1 + 0; omega) (Nat.zero_le _)
  rcases key with ⟨env2, S2, e2, j2, a2⟩ | ⟨h, _⟩
  · rw [List.take_length] at a2
    exact ⟨env2, S2, e2, j2, a2⟩
  · exact h.elim
end
section
variable {S : Sto} {n : Nat} {d : D} {t : Tyn}
theorem v_law_state_text {q q1 q2 q3 : Bool} {bs as ms : List D} (hb : ∀ x ∈ bs, BokOk x) (ha : ∀ x ∈ as, AnOk x) (hm : ∀ x ∈ ms, MemOk x) (lb : bs.length ≤ 3000) (la : as.length ≤ 3000) (lm : ms.length ≤ 3000) :
    Fv (cal (n + 2)) 307 [.tup q [.tup q1 bs, .tup q2 as, .tup q3 ms]] S (.str (staT (.tup q [.tup q1 bs, .tup q2 as, .tup q3 ms]))) := by
  refine fv_body (c := cal (n + 1)) (fun _ _ => rfl) ?_
  generalize hst : (D.tup q [.tup q1 bs, .tup q2 as, .tup q3 ms]) = st
  intro S1 l1
  obtain ⟨p, S2, e2, l2, g2, n2⟩ := (pl_lst (c := cal (n + 1)) (env := [some st, none, none, none, none, none, none, none]) (S := S) (pa_c (pv_c (d := .str [98, 111, 111, 107])) (pa_c (pv_c (d := .str [97, 110, 115, 119, 101, 114, 115])) (pa_c (pv_c (d := .str [109, 101, 109, 98, 101, 114, 115])) pa_n))) (of_decide_eq_true rfl)) S1 l1
  have a2 : Acc S1 p (([sBook, sAnss, sMems] : List (List Nat)).map D.str) S2 := ⟨l2, n2, g2⟩
  let J : Slots → Prop := fun env => ∃ o2 o3 o4 o5 o6 o7, env = [some st, some (.obj p), o2, o3, o4, o5, o6, o7]
  have ixv : ∀ (env : Slots) (rows : List (List Nat)) (S' : Sto) (k : Nat) (y : List Nat), J env → Acc S1 p (rows.map D.str) S' → rows[k]? = some y → Pv (cal (n + 1)) env S' (eBin dSub' (eVar 1) (eC (.int (k : Nat)))) (.str y) := fun env rows S' k y ⟨o2, o3, o4, o5, o6, o7, he⟩ ha hy => by
    subst he
    exact pv_ixo (pv_var rfl) ha.at_ pv_c (by rw [ixD_nat, List.getElem?_map, hy]; rfl)
  have part : ∀ env (S' : Sto) (k : Nat) x, J env → (match k with | 0 => D.tup q1 bs | 1 => D.tup q2 as | _ => D.tup q3 ms) = x → k < 3 → Pv (cal (n + 1)) env S' (eBin dSub' (eVar 0) (eC (.int (k : Nat)))) x := fun env S' k x ⟨o2, o3, o4, o5, o6, o7, he⟩ hx hk => by
    subst he
    refine pv_bin (pv_var rfl) pv_c fun _ => ?_
    rw [← hst, ← hx]
    match k, hk with
    | 0, _ => exact ix_t rfl
    | 1, _ => exact ix_t rfl
    | 2, _ => exact ix_t rfl
  have j2 : J [some st, some (.obj p), none, none, none, none, none, none] := ⟨_, _, _, _, _, _, rfl⟩
  -- the book
  obtain ⟨S3, e3, l3⟩ := part _ S2 0 _ j2 rfl (by decide) S2 (.refl l2.wf)
  obtain ⟨env4, S4, e4, j4, a4⟩ := loop_rows (c := cal (n + 1)) (S0 := S1) (S := S3) (env := [some st, some (.obj p), none, none, none, none, none, none]) (g := gT [(gN 2), (gN 3)]) (b := (sSeq (sPutL (eVar 1) (eC (.int (0))) (eBin dAdd (eBin dAdd (eBin dAdd (eBin dAdd (eBin dSub' (eVar 1) (eC (.int (0)))) (eC (.str [32]))) (eVar 2)) (eC (.str [61]))) (eB bStr (aCons (eVar 3) aNil))))
 sNil)) (xs := bs) (q := p) 0 bokT sBook [sBook, sAnss, sMems] J rfl (by decide) (fun x hx => bokT_len (hb x hx)) lb (fun x hx env S' y rows hj hacc hy hyl => by
    obtain ⟨o2, o3, o4, o5, o6, o7, he⟩ := id hj
    obtain ⟨q', nm, v, rfl, h1, h2⟩ := hb x hx
    have hl1 := (name_len h1).2.1
    have hl2 := intL_len (k := 31) (by decide) h2
    subst he
    refine ⟨[some st, some (.obj p), some (.str nm), some (.int v), o4, o5, o6, o7], rfl, ⟨_, _, _, _, _, _, rfl⟩, ?_⟩
    have hj1 : J [some st, some (.obj p), some (.str nm), some (.int v), o4, o5, o6, o7] := ⟨_, _, _, _, _, _, rfl⟩
    obtain ⟨S5, e5, l5⟩ := (pv_adds (pv_adds (pv_adds (pv_adds (ixv _ rows S' 0 y hj1 hacc hy) (pv_c (d := .str [32])) (by unfold big; simp; omega)) (b := eVar 2) (pv_var rfl) (by unfold big; simp; omega)) (pv_c (d := .str [61])) (by unfold big; simp; omega)) (b := eB bStr (aCons (eVar 3) aNil)) (pv_b (pa_c (pv_var rfl) pa_n) fun _ => str_i (shortI_of h2)) (by unfold big; simp; omega)) S' (.refl hacc.le.wf)
    have hkl : 0 < (rows.map D.str).length := by
      rw [List.length_map]
      cases rows with
      | nil => cases hy
      | cons _ _ => simp
    have r := run_putl (i := 1) (k := 0) (q := p) rfl hacc.at_ hkl e5 l5
    refine ⟨S5, ?_, l5⟩
    refine (sSeq_run r).trans ?_
    show Rt.nx _ _ = _
    congr 3
    rw [← List.map_set]
    congr 2
    simp [bokT]) j2 (a2.mono l3)
  -- the answers
  obtain ⟨S5, e5, l5⟩ := part _ S4 1 _ j4 rfl (by decide) S4 (.refl a4.le.wf)
  obtain ⟨env6, S6, e6, j6, a6⟩ := loop_rows (c := cal (n + 1)) (S0 := S1) (S := S5) (env := env4) (g := gT [(gN 4), (gN 5), (gN 6)]) (b := (sSeq (sPutL (eVar 1) (eC (.int (1))) (eBin dAdd (eBin dAdd (eBin dAdd (eBin dAdd (eBin dAdd (eBin dAdd (eBin dSub' (eVar 1) (eC (.int (1)))) (eC (.str [32]))) (eB bStr (aCons (eVar 4) aNil))) (eC (.str [46]))) (eB bStr (aCons (eVar 5) aNil))) (eC (.str [61]))) (eCall 306 [] (aCons (eVar 6) aNil))))
 sNil)) (xs := as) (q := p) 1 anT sAnss _ J (by rw [List.getElem?_set_ne (by decide)]; rfl) (by decide) (fun x hx => anT_len (ha x hx)) la (fun x hx env S' y rows hj hacc hy hyl => by
    obtain ⟨o2, o3, o4, o5, o6, o7, he⟩ := id hj
    obtain ⟨q', a, s, e, rfl, h1, h2, h3, h4, h5, h6⟩ := ha x hx
    have hl0 := ansT_len h5 h6
    obtain ⟨s1, s2⟩ := small_len (i := a) h1 (by omega)
    obtain ⟨s3, s4⟩ := small_len (i := s) (by omega) h4
    subst he
    refine ⟨[some st, some (.obj p), o2, o3, some (.int a), some (.int s), some e, o7], rfl, ⟨_, _, _, _, _, _, rfl⟩, ?_⟩
    have hj1 : J [some st, some (.obj p), o2, o3, some (.int a), some (.int s), some e, o7] := ⟨_, _, _, _, _, _, rfl⟩
    obtain ⟨S7, e7, l7⟩ := (pv_adds (pv_adds (pv_adds (pv_adds (pv_adds (pv_adds (ixv _ rows S' 1 y hj1 hacc hy) (pv_c (d := .str [32])) (by unfold big; simp; omega)) (b := eB bStr (aCons (eVar 4) aNil)) (pv_b (pa_c (pv_var rfl) pa_n) fun _ => str_i s1) (by unfold big; simp; omega)) (pv_c (d := .str [46])) (by unfold big; simp; omega)) (b := eB bStr (aCons (eVar 5) aNil)) (pv_b (pa_c (pv_var rfl) pa_n) fun _ => str_i s3) (by unfold big; simp; omega)) (pv_c (d := .str [61])) (by unfold big; simp; omega))
      (b := eCall 306 [] (aCons (eVar 6) aNil)) (pv_call (pa_c (pv_var rfl) pa_n) (v_law_word (n := n) h5 fun i e => shortI_of (h6 i e))) (by unfold big; simp; omega)) S' (.refl hacc.le.wf)
    have hkl : 1 < (rows.map D.str).length := by
      rw [List.length_map]
      match rows, hy with
      | [], hy => cases hy
      | [_], hy => cases hy
      | _ :: _ :: _, _ => simp
    have r := run_putl (i := 1) (k := 1) (q := p) rfl hacc.at_ hkl e7 l7
    refine ⟨S7, ?_, l7⟩
    refine (sSeq_run r).trans ?_
    show Rt.nx _ _ = _
    congr 3
    rw [← List.map_set]
    congr 2
    simp [anT]) j4 (a4.mono l5)
  -- the members
  obtain ⟨S7, e7, l7⟩ := part _ S6 2 _ j6 rfl (by decide) S6 (.refl a6.le.wf)
  obtain ⟨env8, S8, e8, j8, a8⟩ := loop_rows (c := cal (n + 1)) (S0 := S1) (S := S7) (env := env6) (g := gN 7) (b := (sSeq (sPutL (eVar 1) (eC (.int (2))) (eBin dAdd (eBin dAdd (eBin dSub' (eVar 1) (eC (.int (2)))) (eC (.str [32]))) (eB bStr (aCons (eVar 7) aNil))))
 sNil)) (xs := ms) (q := p) 2 strOf sMems _ J (by rw [List.getElem?_set_ne (by decide), List.getElem?_set_ne (by decide)]; rfl) (by decide) (fun x hx => memT_len (hm x hx)) lm (fun x hx env S' y rows hj hacc hy hyl => by
    obtain ⟨o2, o3, o4, o5, o6, o7, he⟩ := id hj
    obtain ⟨i, rfl, h1, h2⟩ := hm x hx
    obtain ⟨s1, s2⟩ := small_len (i := i) h1 (by omega)
    subst he
    refine ⟨[some st, some (.obj p), o2, o3, o4, o5, o6, some (.int i)], rfl, ⟨_, _, _, _, _, _, rfl⟩, ?_⟩
    have hj1 : J [some st, some (.obj p), o2, o3, o4, o5, o6, some (.int i)] := ⟨_, _, _, _, _, _, rfl⟩
    obtain ⟨S9, e9, l9⟩ := (pv_adds (pv_adds (ixv _ rows S' 2 y hj1 hacc hy) (pv_c (d := .str [32])) (by unfold big; simp; omega)) (b := eB bStr (aCons (eVar 7) aNil)) (pv_b (pa_c (pv_var rfl) pa_n) fun _ => str_i s1) (by unfold big; simp; omega)) S' (.refl hacc.le.wf)
    have hkl : 2 < (rows.map D.str).length := by
      rw [List.length_map]
      match rows, hy with
      | [], hy => cases hy
      | [_], hy => cases hy
      | [_, _], hy => cases hy
      | _ :: _ :: _ :: _, _ => simp
    have r := run_putl (i := 1) (k := 2) (q := p) rfl hacc.at_ hkl e9 l9
    refine ⟨S9, ?_, l9⟩
    refine (sSeq_run r).trans ?_
    show Rt.nx _ _ = _
    congr 3
    rw [← List.map_set]
    congr 2
    simp [strOf]) j6 (a6.mono l7)
  obtain ⟨o2, o3, o4, o5, o6, o7, he8⟩ := id j8
  have ej : ∀ L : List (List Nat), mapO strD (L.map .str) = some L := fun L => by simpa using mapO_strD (fun x => x) L
  have t1 := tops (ps := bs.map bokT) (fun p hp => by obtain ⟨x, hx, rfl⟩ := List.mem_map.mp hp; exact bokT_len (hb x hx)) (by rw [List.length_map]; exact lb) sBook (by decide)
  have t2 := tops (ps := as.map anT) (fun p hp => by obtain ⟨x, hx, rfl⟩ := List.mem_map.mp hp; exact anT_len (ha x hx)) (by rw [List.length_map]; exact la) sAnss (by decide)
  have t3 := tops (ps := ms.map strOf) (fun p hp => by obtain ⟨x, hx, rfl⟩ := List.mem_map.mp hp; exact memT_len (hm x hx)) (by rw [List.length_map]; exact lm) sMems (by decide)
  have fin : Ps (cal (n + 1)) env8 S8 (sSeq (sRet (eBM isStrD mJoin (eC (.str [10])) (aCons (eVar 1) aNil))) sNil) (.rt (.str (staT st))) := by
    subst he8
    refine ps_fin (Pv.to (pv_joino (x := [10]) pv_c (pv_var rfl) a8.at_ (ej _) ?_) ?_)
    · have := t1.2
      have := t2.2
      have := t3.2
      simp only [List.set, List.map_cons, List.map_nil, List.sum_cons, List.sum_nil, List.length_cons, List.length_nil]
      unfold big
      omega
    · rw [← hst]; rfl
  obtain ⟨S9, e9, l9⟩ := fin S8 (.refl a8.le.wf)
  refine ⟨S9, ?_, a8.le.trans l9⟩
  have rr : ∀ (env : Slots) (S' S'' : Sto) (k : Nat) (w : Bool) (xs : List D), eBin dSub' (eVar 0) (eC (.int (k : Nat))) (cal (n + 1)) env S' = .ok (.tup w xs) S'' → iVal (eBin dSub' (eVar 0) (eC (.int (k : Nat)))) (cal (n + 1)) env S' = .ok (.tup xs) S'' := fun env S' S'' k w xs h => by
    unfold iVal; rw [h]; rfl
  exact (sSeq_run (run_setl e2)).trans ((sSeq_run ((run_for (rr _ _ _ 0 _ _ e3)).trans e4)).trans ((sSeq_run ((run_for (rr _ _ _ 1 _ _ e5)).trans e6)).trans ((sSeq_run ((run_for (rr _ _ _ 2 _ _ e7)).trans e8)).trans e9)))
end
end Ev
set_option Elab.async false
set_option linter.all false
set_option maxRecDepth 100000
set_option maxHeartbeats 0
namespace Ev
open PySem
local macro_rules
  | `(tactic| nofun) => `(tactic| first
    | exact pv_var rfl
    | exact pv_c
    | exact pa_n
    | exact pt_yes
    | exact po_no
    | assumption
    | (with_reducible apply po_part
       nofun)
    | (with_reducible apply pa_c
       · nofun
       · nofun)
    | (with_reducible apply pt_of
       nofun)
    | (with_reducible apply pt_not
       nofun)
    | (with_reducible apply pt_or_t
       with_reducible apply Pt.to
       · nofun
       · first | rfl | (simp [*]; done))
    | (with_reducible apply pt_or
       · nofun
       · (intro _
          nofun))
    | (with_reducible apply pt_and_f
       with_reducible apply Pt.to
       · nofun
       · first | rfl | (simp [*]; done))
    | (with_reducible apply pt_and
       · nofun
       · (intro _
          nofun))
    | (with_reducible apply pv_and_f
       with_reducible apply Pv.to
       · nofun
       · first | rfl | (simp [*]; done))
    | (with_reducible apply pv_and
       · nofun
       · (intro _
          nofun))
    | (with_reducible apply pv_or_t
       with_reducible apply Pv.to
       · nofun
       · first | rfl | (simp [*]; done))
    | (with_reducible apply pv_or
       · nofun
       · (intro _
          nofun))
    | (with_reducible apply pv_not
       nofun)
    | (with_reducible apply pv_neg
       nofun)
    | (with_reducible apply pv_is
       · nofun
       · first | exact tys_of rfl | assumption)
    | (with_reducible apply pv_tup
       · nofun
       · exact of_decide_eq_true rfl)
    | (with_reducible apply pl_lst
       · nofun
       · exact of_decide_eq_true rfl)
    | (with_reducible apply pv_call
       · nofun
       · assumption)
    | (with_reducible apply pl_call
       · nofun
       · assumption)
    | (with_reducible apply pv_callK
       · nofun
       · nofun
       · assumption)
    | (with_reducible apply pv_b
       · nofun
       · first | exact fun _ => len_t | exact fun _ => len_s (by assumption) | exact fun _ => rfl)
    | (with_reducible apply pv_bS
       · nofun
       · exact fun _ l => len_l (l.get (by assumption)))
    | (with_reducible apply pv_bin
       · nofun
       · nofun
       · first | exact fun _ => le_i | exact fun _ => lt_i | exact fun _ => gt_i | exact fun _ => ge_i | exact fun _ => eq_i | exact fun _ => ne_i | exact fun _ => eq_s | exact fun _ => ne_s | exact fun _ => in_two | exact fun _ => ix_t rfl | exact fun _ => rfl)
    | (with_reducible apply pv_binS
       · nofun
       · nofun
       · exact fun _ l => ix_l (l.get (by assumption)) rfl)
    | (with_reducible apply pv_chain
       · nofun
       · nofun
       · exact fun _ => le_i
       · (intro _
          nofun)
       · exact fun _ _ => le_i)
    | (with_reducible apply pv_bm
       · nofun
       · nofun
       · exact fun _ => rfl
       · exact fun _ => rfl)
    | (with_reducible apply pv_tupl
       nofun))

/-! ### rows drawn -/
def plA (i : Nat) : Int := [1, 1, 2, 7].getD i 0
structure Six (L : List Int) (k : Nat) (a b e f g h : Int) : Prop where
  cut : (L.drop (1 + 6 * k)).take 6 = [a, b, e, f, g, h]
  rb : 0 ≤ b ∧ b < 7
  re : 0 ≤ e ∧ e < 4
  rg : 0 ≤ g ∧ g < 10
  rh : 0 ≤ h ∧ h < 5
def ageN (age place b h : Int) : Int := if h = 0 ∨ place = 29 then age + 1 + b else age
def plcN (place e h : Int) : Int := if h = 0 ∨ place = 29 then 0 else if place + plA e.toNat < 29 then place + plA e.toNat else 29
def rowF (L : List Int) : Nat → Nat → Int → Int → List D
  | 0, _, _, _ => []
  | m + 1, k, age, place => match (L.drop (1 + 6 * k)).take 6 with
    | [a, b, e, f, g, h] => .tup true [.int (ageN age place b h), .int (plcN place e h), if h = 1 then .non else askA a b e f g] :: rowF L m (k + 1) (ageN age place b h) (plcN place e h)
    | _ => []
def rowZ : List Int := 9 :: (List.replicate 8 [4, 7, 4, 4, 10, 5]).flatten
theorem six_of {L : List Int} (h : Dig L rowZ) {k : Nat} (hk : k < 8) : ∃ a b e f g h, Six L k a b e f g h := by
  have hl : L.length = 49 := h.1
  have at_ : ∀ i, i < 49 → ∃ x, L[i]? = some x ∧ ∀ z, rowZ[i]? = some z → 0 ≤ x ∧ x < z := fun i hi => by
    refine ⟨L[i]'(by omega), List.getElem?_eq_getElem (by omega), fun z hz => ?_⟩
    exact h.2 i _ z (List.getElem?_eq_getElem (by omega)) hz
  obtain ⟨a, ha, _⟩ := at_ (1 + 6 * k) (by omega)
  obtain ⟨b, hb, hb2⟩ := at_ (1 + 6 * k + 1) (by omega)
  obtain ⟨e, he, he2⟩ := at_ (1 + 6 * k + 2) (by omega)
  obtain ⟨f, hf, _⟩ := at_ (1 + 6 * k + 3) (by omega)
  obtain ⟨g, hg, hg2⟩ := at_ (1 + 6 * k + 4) (by omega)
  obtain ⟨i, hi, hi2⟩ := at_ (1 + 6 * k + 5) (by omega)
  have sizes : ∀ k < 8, rowZ[1 + 6 * k + 1]? = some 7 ∧ rowZ[1 + 6 * k + 2]? = some 4 ∧ rowZ[1 + 6 * k + 4]? = some 10 ∧ rowZ[1 + 6 * k + 5]? = some 5 := by decide
  obtain ⟨z1, z2, z3, z4⟩ := sizes k hk
  refine ⟨a, b, e, f, g, i, ?_, hb2 _ z1, he2 _ z2, hg2 _ z3, hi2 _ z4⟩
  refine List.ext_getElem? fun j => ?_
  rw [List.getElem?_take]
  by_cases hj : j < 6
  · rw [if_pos hj, List.getElem?_drop]
    match j, hj with
    | 0, _ => exact ha
    | 1, _ => exact hb
    | 2, _ => exact he
    | 3, _ => exact hf
    | 4, _ => exact hg
    | 5, _ => exact hi
  · rw [if_neg hj, List.getElem?_eq_none (by simp; omega)]
/-- the rows rise -/
def chainB : List D → Bool
  | r :: s :: rest => ltR r s && chainB (s :: rest)
  | _ => true
theorem chainB_at : ∀ {rows : List D} {i : Nat} {a b : D}, chainB rows = true → rows[i]? = some a → rows[i + 1]? = some b → ltR a b = true
  | [], i, a, b, _, h, _ => by simp at h
  | [r], i, a, b, _, _, h => by simp at h
  | r :: s :: rest, 0, a, b, hc, h1, h2 => by
    simp only [chainB, Bool.and_eq_true] at hc
    simp at h1 h2
    subst h1; subst h2
    exact hc.1
  | r :: s :: rest, i + 1, a, b, hc, h1, h2 => by
    simp only [chainB, Bool.and_eq_true] at hc
    exact chainB_at (rows := s :: rest) hc.2 (by simpa using h1) (by simpa using h2)
theorem plA_ok : ∀ i < 4, 1 ≤ plA i ∧ plA i ≤ 7 := by decide
theorem rowF_ok {L : List Int} (h : Dig L rowZ) : ∀ (m k : Nat) (age place : Int), m + k ≤ 8 → 0 ≤ age → age ≤ 8 * (k : Int) → -1 ≤ place → place ≤ 29 → (∀ r ∈ rowF L m k age place, RowC r) ∧ (rowF L m k age place).length = m ∧
    chainB (rowF L m k age place) = true ∧ ∀ r rest, rowF L m k age place = r :: rest → ltR (.tup true [.int age, .int place, .non]) r = true
  | 0, k, age, place, _, _, _, _, _ => ⟨fun r hr => (by simp [rowF] at hr), rfl, rfl, fun r rest h => (by simp [rowF] at h)⟩
  | m + 1, k, age, place, hm, h0, h1, h2, h3 => by
    obtain ⟨a, b, e, f, g, hh, sx⟩ := six_of h (k := k) (by omega)
    have eq : rowF L (m + 1) k age place = .tup true [.int (ageN age place b hh), .int (plcN place e hh), if hh = 1 then .non else askA a b e f g] :: rowF L m (k + 1) (ageN age place b hh) (plcN place e hh) := by
      conv => lhs; rw [rowF, sx.cut]
    have pe := plA_ok e.toNat (by have := sx.re; omega)
    have n1 : 0 ≤ ageN age place b hh ∧ ageN age place b hh ≤ 8 * ((k + 1 : Nat) : Int) := by
      have := sx.rb
      unfold ageN
      split <;> omega
    have n2 : 0 ≤ plcN place e hh ∧ plcN place e hh ≤ 29 := by
      unfold plcN
      split
      · omega
      · split <;> omega
    have n3 : (age < ageN age place b hh) ∨ (age = ageN age place b hh ∧ place < plcN place e hh) := by
      have := sx.rb
      unfold ageN plcN
      by_cases hc : hh = 0 ∨ place = 29
      · rw [if_pos hc, if_pos hc]; left; omega
      · rw [if_neg hc, if_neg hc]
        right
        refine ⟨rfl, ?_⟩
        have : place ≠ 29 := fun z => hc (.inr z)
        split <;> omega
    obtain ⟨i1, i2, i3, i4⟩ := rowF_ok h m (k + 1) (ageN age place b hh) (plcN place e hh) (by omega) n1.1 n1.2 (by omega) n2.2
    have ltn : ∀ k1 k2 : D, ltR (.tup true [.int age, .int place, k1]) (.tup true [.int (ageN age place b hh), .int (plcN place e hh), k2]) = true := fun k1 k2 => by
      simp only [ltR, Bool.or_eq_true, Bool.and_eq_true, decide_eq_true_eq]
      exact n3
    rw [eq]
    refine ⟨fun r hr => ?_, by simp [i2], ?_, fun r rest hr => ?_⟩
    · rcases List.mem_cons.mp hr with rfl | hr
      · refine ⟨_, _, _, rfl, n1.1, by omega, n2.1, n2.2, ?_⟩
        split
        · exact .inl rfl
        · exact askA_ok sx.rb sx.re sx.rg
      · exact i1 r hr
    · cases hR : rowF L m (k + 1) (ageN age place b hh) (plcN place e hh) with
      | nil => rfl
      | cons s rest =>
        rw [hR] at i3 i4
        simp only [chainB, Bool.and_eq_true]
        refine ⟨?_, i3⟩
        have := i4 s rest rfl
        obtain ⟨x, y, w, rfl, _⟩ := i1 s (by rw [hR]; simp)
        exact this
    · injection hr with h5 h6
      rw [← h5]
      exact ltn _ _
section
variable {S : Sto} {n : Nat} {d : D} {t : Tyn}
theorem min_i {i j : Int} {S : Sto} : bMin2 [.int i, .int j] S = .ok (.int (if j < i then j else i)) S := rfl
theorem rngL_len (lo : Int) (n : Nat) : (rngL lo n).length = n := by unfold rngL; simp
theorem rngL_get {lo : Int} {n i : Nat} (h : i < (rngL lo n).length) : (rngL lo n)[i] = .int (lo + (i : Nat)) := by
  have h2 : (rngL lo n)[i]? = some (.int (lo + (i : Nat))) := by
    unfold rngL
    rw [List.getElem?_map, List.getElem?_range (by rw [rngL_len] at h; exact h)]; rfl
  rw [List.getElem?_eq_getElem h] at h2
  exact Option.some.inj h2
theorem at_rng {lo : Int} {n i : Nat} {S : Sto} : Iz.at (.rng lo n) i S = some (rngL lo n)[i]? := by
  unfold Iz.at rngL
  dsimp only
  rw [List.getElem?_map]
  by_cases h : i < n
  · rw [Nat.blt_eq.mpr h, List.getElem?_range h]; rfl
  · rw [List.getElem?_eq_none (by simpa using h)]
    cases q : Nat.blt i n with
    | true => exact absurd (Nat.blt_eq.mp q) h
    | false => rfl
theorem v_law_row {p : Po} {mm : Nat} {L : List Int} (hp : S.get p = some (.lst mm (L.map .int))) (h : Dig L rowZ) : ∃ m : Nat, L[0]? = some (m : Int) ∧ m ≤ 8 ∧ Fl (cal (n + 3)) 308 [.obj p] S (rowF L m 0 0 (-1)) := by
  have hl : L.length = 49 := h.1
  have h0 := h.2 0 (L[0]'(by omega)) 9 (List.getElem?_eq_getElem (by omega)) rfl
  obtain ⟨m, hm⟩ := Int.eq_ofNat_of_zero_le h0.1
  have hL0 : L[0]? = some (m : Int) := by rw [List.getElem?_eq_getElem (by omega), hm]
  have hm8 : m ≤ 8 := by omega
  refine ⟨m, hL0, hm8, fl_body (c := cal (n + 2)) (fun _ _ => rfl) (psl_seq (ps_set pv_c fun _ => rfl) (psl_seq (ps_set (pv_neg pv_c) fun _ => rfl) ?_))⟩
  intro S1 l1
  have l2 := le_add (o := .lst 0 []) l1.wf
  have a2 : Acc S1 S1.nx [] (S1.add (.lst 0 [])) := ⟨l2, Nat.le_refl _, add_get⟩
  have hp1 : S1.get p = some (.lst mm (L.map .int)) := l1.get hp
  have ne : p ≠ S1.nx := fun e => by rw [e, l1.wf.nx_none] at hp1; cases hp1
  have hp2 := l2.get hp1
  have it0 := fun q => pi_rng (c := cal (n + 2)) (env := [some (.obj p), some (.int 0), some (.int (-1)), some (.obj q), none, none]) (S := S1.add (.lst 0 [])) (a := eBin dSub' (eVar 0) (eC (.int 0))) (j := m) (pv_ixo (pv_var rfl) hp2 pv_c (ix_int (i := 0) hL0)) (by unfold smallI; exact Nat.blt_eq.mpr (Nat.lt_of_le_of_lt (show (m : Int).natAbs ≤ 8 by omega) (by decide)))
  have vi0 := fun q => pv_ixo (c := cal (n + 2)) (env := [some (.obj p), some (.int 0), some (.int (-1)), some (.obj q), none, none]) (S := S1.add (.lst 0 [])) (a := eVar 0) (b := eC (.int 0)) (pv_var rfl) hp2 pv_c (ix_int (i := 0) hL0)
  generalize hq : S1.nx = q at a2 ne
  obtain ⟨S3, e3, l3⟩ := vi0 q _ (.refl l2.wf)
  have rf : iRange (aCons (eBin dSub' (eVar 0) (eC (.int 0))) aNil) (cal (n + 2)) [some (.obj p), some (.int 0), some (.int (-1)), some (.obj q), none, none] (S1.add (.lst 0 [])) = .ok (.rng 0 m) S3 := by
    unfold iRange aCons; rw [e3]
    show (match smallI (m : Int) with | true => Rs.ok (Iz.rng 0 (m : Int).toNat) S3 | false => .no) = _
    have : smallI (m : Int) = true := by unfold smallI; exact Nat.blt_eq.mpr (Nat.lt_of_le_of_lt (show (m : Int).natAbs ≤ 8 by omega) (by decide))
    rw [this]; rfl
  let I : Nat → Slots → Sto → Prop := fun i env S' => ∃ age place o4 o5 R, env = [some (.obj p), some (.int age), some (.int place), some (.obj q), o4, o5] ∧ Acc S1 q R S' ∧ R.length = i ∧ rowF L m 0 0 (-1) = R ++ rowF L (m - i) i age place ∧ S'.get p = some (.lst mm (L.map .int))
  have key := for_inv (c := cal (n + 2)) (z := .rng 0 m) (g := gN 4) (b := (sSeq (sSet (gN 5) (eSl (eVar 0) (oPart (eBin dAdd (eC (.int (1))) (eBin dMul (eC (.int (6))) (eVar 4)))) (oPart (eBin dAdd (eC (.int (7))) (eBin dMul (eC (.int (6))) (eVar 4))))))
 (sSeq (sIf (tOr' (tOf (eBin dEq (eBin dSub' (eVar 5) (eC (.int (5)))) (eC (.int (0))))) (tOf (eBin dEq (eVar 2) (eC (.int (29))))))
 (sSeq (sSet (gN 1) (eBin dAdd (eBin dAdd (eVar 1) (eC (.int (1)))) (eBin dSub' (eVar 5) (eC (.int (1))))))
 (sSeq (sSet (gN 2) (eC (.int (0))))
 sNil))
 (sSeq (sSet (gN 2) (eB bMin2 (aCons (eC (.int (29))) (aCons (eBin dAdd (eVar 2) (eBin dSub' (eLst (aCons (eC (.int (1))) (aCons (eC (.int (1))) (aCons (eC (.int (2))) (aCons (eC (.int (7))) aNil))))) (eBin dSub' (eVar 5) (eC (.int (2)))))) aNil))))
 sNil))
 (sSeq (sX (eBM isLstD mAppend (eVar 3) (aCons (eTup (aCons (eVar 1) (aCons (eVar 2) (aCons (eBin dSub' (eLst (aCons (eCall 303 [] (aCons (eVar 5) aNil)) (aCons (eC .non) aNil))) (eB bInt (aCons (eBin dEq (eBin dSub' (eVar 5) (eC (.int (5)))) (eC (.int (1)))) aNil))) aNil)))) aNil)))
 sNil)))) (xs := rngL 0 m) I (fun _ => False) (fun _ _ _ _ => at_rng) (fun i hi env S' hI => ?_) (Iz.fuel (.rng 0 m) S3) 0 [some (.obj p), some (.int 0), some (.int (-1)), some (.obj q), none, none] S3
      ⟨0, -1, none, none, [], rfl, a2.mono l3, rfl, by simp, l3.get hp2⟩ (by rw [rngL_len]; show m < m + 1 + 0; omega) (Nat.zero_le _)
  · rcases key with ⟨env2, S4, e4, ⟨age, place, o4, o5, R, rfl, a4, hR, hT, g4⟩⟩ | ⟨h, _⟩
    · rw [rngL_len] at hR hT
      have hT3 : rowF L m 0 0 (-1) = R := by rw [hT, Nat.sub_self]; simp [rowF]
      rw [hT3]
      refine ⟨q, S4, ?_, a4.le, a4.at_, by rw [← hq]; exact Nat.le_refl _⟩
      refine (sSeq_run (run_new l1.wf)).trans ?_
      show sSeq _ _ (cal (n + 2)) [some (.obj p), some (.int 0), some (.int (-1)), some (.obj S1.nx), none, none] (S1.add (.lst 0 [])) = _
      rw [hq]
      exact (sSeq_run ((run_for (z := .rng 0 m) (S1 := S3) rf).trans e4)).trans rfl
    · exact h.elim
  · obtain ⟨age, place, o4, o5, R, rfl, a4, hR, hT, g4⟩ := hI
    rw [rngL_len] at hi
    have hi8 : i < 8 := by omega
    obtain ⟨a, b, e, f, g, hh, sx⟩ := six_of h hi8
    have pe := plA_ok e.toNat (by have := sx.re; omega)
    refine ⟨[some (.obj p), some (.int age), some (.int place), some (.obj q), some (.int (i : Nat)), o5], S', by rw [rngL_get (by rw [rngL_len]; exact hi)]; show some (_, S') = _; rw [Int.zero_add]; rfl, .inl ?_⟩
    -- the six digits
    have hcut : cutD (L.map D.int) (some (1 + 6 * (i : Int))) (some (7 + 6 * (i : Int))) = [.int a, .int b, .int e, .int f, .int g, .int hh] := by
      have e1 : (1 + 6 * (i : Int)) = ((1 + 6 * i : Nat) : Int) := by omega
      have e2 : (7 + 6 * (i : Int)) = ((7 + 6 * i : Nat) : Int) := by omega
      rw [e1, e2, cut_nat, show 7 + 6 * i - (1 + 6 * i) = 6 by omega, ← List.map_drop, ← List.map_take, sx.cut]
      rfl
    obtain ⟨p5, S5, e5, l5, g5, n5⟩ := (pl_sl (c := cal (n + 2)) (env := [some (.obj p), some (.int age), some (.int place), some (.obj q), some (.int (i : Nat)), o5]) (S := S') (a := eVar 0) (pv_var rfl) (po_part (a := eBin dAdd (eC (.int (1))) (eBin dMul (eC (.int (6))) (eVar 4))) (pv_addi pv_c (pv_mulc pv_c (pv_var rfl) rfl))) (po_part (a := eBin dAdd (eC (.int (7))) (eBin dMul (eC (.int (6))) (eVar 4))) (pv_addi pv_c (pv_mulc pv_c (pv_var rfl) rfl))) (seqD_lst g4) fun S6 l6 => seqD_lst (l6.get g4)) S' (.refl a4.le.wf)
    rw [hcut] at g5
    have dg : ∀ (env : Slots) (S6 : Sto), env[5]? = some (some (.obj p5)) → S6.get p5 = some (.lst 0 [.int a, .int b, .int e, .int f, .int g, .int hh]) → ∀ (k : Nat) (x : Int), [a, b, e, f, g, hh][k]? = some x → Pv (cal (n + 2)) env S6 (eBin dSub' (eVar 5) (eC (.int (k : Nat)))) (.int x) := fun env S6 h5 g6 k x hx =>
      pv_ixo (pv_var h5) (xs := [a, b, e, f, g, hh].map D.int) g6 pv_c (ix_int hx)
    have tst : Pt (cal (n + 2)) [some (.obj p), some (.int age), some (.int place), some (.obj q), some (.int (i : Nat)), some (.obj p5)] S5 (tOr' (tOf (eBin dEq (eBin dSub' (eVar 5) (eC (.int (5)))) (eC (.int (0))))) (tOf (eBin dEq (eVar 2) (eC (.int (29)))))) (decide (hh = 0) || decide (place = 29)) :=
      pt_or (pt_of (pv_bin (dg _ S5 rfl g5 5 hh rfl) pv_c fun _ => eq_i)) fun _ => pt_of (pv_bin (pv_var rfl) pv_c fun _ => eq_i)
    have step1 : ∃ S6, (sIf (tOr' (tOf (eBin dEq (eBin dSub' (eVar 5) (eC (.int (5)))) (eC (.int (0))))) (tOf (eBin dEq (eVar 2) (eC (.int (29))))))
 (sSeq (sSet (gN 1) (eBin dAdd (eBin dAdd (eVar 1) (eC (.int (1)))) (eBin dSub' (eVar 5) (eC (.int (1))))))
 (sSeq (sSet (gN 2) (eC (.int (0))))
 sNil))
 (sSeq (sSet (gN 2) (eB bMin2 (aCons (eC (.int (29))) (aCons (eBin dAdd (eVar 2) (eBin dSub' (eLst (aCons (eC (.int (1))) (aCons (eC (.int (1))) (aCons (eC (.int (2))) (aCons (eC (.int (7))) aNil))))) (eBin dSub' (eVar 5) (eC (.int (2)))))) aNil))))
 sNil)) (cal (n + 2)) [some (.obj p), some (.int age), some (.int place), some (.obj q), some (.int (i : Nat)), some (.obj p5)] S5 = .nx [some (.obj p), some (.int (ageN age place b hh)), some (.int (plcN place e hh)), some (.obj q), some (.int (i : Nat)), some (.obj p5)] S6 ∧ Le S5 S6 := by
      refine (ps_if (r := .nx [some (.obj p), some (.int (ageN age place b hh)), some (.int (plcN place e hh)), some (.obj q), some (.int (i : Nat)), some (.obj p5)]) tst (fun hk => ?_) fun hk => ?_) S5 (.refl l5.wf)
      · have hc : hh = 0 ∨ place = 29 := by simpa using hk
        refine ps_seq (ps_set (pv_addi (pv_addi (pv_var rfl) pv_c) (dg _ S5 rfl g5 1 b rfl)) fun _ => rfl) (ps_seq (env1 := [some (.obj p), some (.int (ageN age place b hh)), some (.int (plcN place e hh)), some (.obj q), some (.int (i : Nat)), some (.obj p5)]) (ps_set pv_c fun _ => ?_) ps_nil)
        unfold ageN plcN
        rw [if_pos hc, if_pos hc]; rfl
      · have hc : ¬ (hh = 0 ∨ place = 29) := by simpa using hk
        refine ps_seq (env1 := [some (.obj p), some (.int (ageN age place b hh)), some (.int (plcN place e hh)), some (.obj q), some (.int (i : Nat)), some (.obj p5)]) (ps_set (pv_b (pa_c pv_c (pa_c (pv_addi (pv_var rfl) (pv_ixn (d := .int (plA e.toNat)) (pl_lst (pa_c pv_c (pa_c pv_c (pa_c pv_c (pa_c pv_c pa_n)))) (of_decide_eq_true rfl)) (dg _ S5 rfl g5 2 e rfl) ?_)) pa_n)) fun _ => min_i) fun _ => ?_) ps_nil
        · obtain ⟨x, hx⟩ := Int.eq_ofNat_of_zero_le sx.re.1
          have hx4 : x < 4 := by have := sx.re; omega
          subst hx
          match x, hx4 with
          | 0, _ => rfl
          | 1, _ => rfl
          | 2, _ => rfl
          | 3, _ => rfl
        · unfold ageN plcN
          rw [if_neg hc, if_neg hc]; rfl
    obtain ⟨S6, e6, l6⟩ := step1
    have g6 := l6.get g5
    obtain ⟨S7, e7, l7⟩ := (pv_tup (c := cal (n + 2)) (env := [some (.obj p), some (.int (ageN age place b hh)), some (.int (plcN place e hh)), some (.obj q), some (.int (i : Nat)), some (.obj p5)]) (S := S6) (a := (aCons (eVar 1) (aCons (eVar 2) (aCons (eBin dSub' (eLst (aCons (eCall 303 [] (aCons (eVar 5) aNil)) (aCons (eC .non) aNil))) (eB bInt (aCons (eBin dEq (eBin dSub' (eVar 5) (eC (.int (5)))) (eC (.int (1)))) aNil))) aNil)))) (ds := [.int (ageN age place b hh), .int (plcN place e hh), if hh = 1 then .non else askA a b e f g])
      (pa_c (pv_var rfl) (pa_c (pv_var rfl) (pa_c (pv_ixn (pl_lst (pa_c (pv_call (pa_c (pv_var rfl) pa_n) (v_law_ask_of (n := n) (L := [a, b, e, f, g, hh]) g6 rfl rfl rfl rfl rfl)) (pa_c pv_c pa_n)) (of_decide_eq_true rfl)) (i := if hh = 1 then 1 else 0) (pv_b (pa_c (pv_bin (dg _ S6 rfl g6 5 hh rfl) pv_c fun _ => eq_i) pa_n) fun _ => by
        by_cases h1 : hh = 1
        · rw [decide_eq_true h1, if_pos h1]; rfl
        · rw [decide_eq_false h1, if_neg h1]; rfl) (by
        by_cases h1 : hh = 1
        · rw [if_pos h1, if_pos h1]; rfl
        · rw [if_neg h1, if_neg h1]; rfl)) pa_n))) (of_decide_eq_true rfl)) S6 (.refl l6.wf)
    have r8 := run_append (c := cal (n + 2)) (env := [some (.obj p), some (.int (ageN age place b hh)), some (.int (plcN place e hh)), some (.obj q), some (.int (i : Nat)), some (.obj p5)]) (i := 3) rfl ((a4.mono (l5.trans l6)).at_) (by unfold big; omega) e7 l7
    refine ⟨[some (.obj p), some (.int (ageN age place b hh)), some (.int (plcN place e hh)), some (.obj q), some (.int (i : Nat)), some (.obj p5)], _, .inl ((sSeq_run (run_setl e5)).trans ((sSeq_run e6).trans ((sSeq_run r8).trans rfl))), ageN age place b hh, plcN place e hh, _, _, R ++ [_], rfl, (a4.mono (l5.trans (l6.trans l7))).push, by simp [hR], ?_, ?_⟩
    · rw [hT]
      obtain ⟨j, hj⟩ : ∃ j, m - i = j + 1 := ⟨m - i - 1, by omega⟩
      rw [hj, show m - (i + 1) = j by omega]
      have : rowF L (j + 1) i age place = .tup true [.int (ageN age place b hh), .int (plcN place e hh), if hh = 1 then .non else askA a b e f g] :: rowF L j (i + 1) (ageN age place b hh) (plcN place e hh) := by
        rw [rowF, sx.cut]
      rw [this]
      simp
    · rw [Sto.put_ne ne]; exact (l5.trans (l6.trans l7)).get g4
end
end Ev
set_option Elab.async false
set_option linter.all false
set_option maxRecDepth 100000
set_option maxHeartbeats 0
namespace Ev
open PySem
local macro_rules
  | `(tactic| nofun) => `(tactic| first
    | exact pv_var rfl
    | exact pv_c
    | exact pa_n
    | exact pt_yes
    | exact po_no
    | assumption
    | (with_reducible apply po_part
       nofun)
    | (with_reducible apply pa_c
       · nofun
       · nofun)
    | (with_reducible apply pt_of
       nofun)
    | (with_reducible apply pt_not
       nofun)
    | (with_reducible apply pt_or_t
       with_reducible apply Pt.to
       · nofun
       · first | rfl | (simp [*]; done))
    | (with_reducible apply pt_or
       · nofun
       · (intro _
          nofun))
    | (with_reducible apply pt_and_f
       with_reducible apply Pt.to
       · nofun
       · first | rfl | (simp [*]; done))
    | (with_reducible apply pt_and
       · nofun
       · (intro _
          nofun))
    | (with_reducible apply pv_and_f
       with_reducible apply Pv.to
       · nofun
       · first | rfl | (simp [*]; done))
    | (with_reducible apply pv_and
       · nofun
       · (intro _
          nofun))
    | (with_reducible apply pv_or_t
       with_reducible apply Pv.to
       · nofun
       · first | rfl | (simp [*]; done))
    | (with_reducible apply pv_or
       · nofun
       · (intro _
          nofun))
    | (with_reducible apply pv_not
       nofun)
    | (with_reducible apply pv_neg
       nofun)
    | (with_reducible apply pv_is
       · nofun
       · first | exact tys_of rfl | assumption)
    | (with_reducible apply pv_tup
       · nofun
       · exact of_decide_eq_true rfl)
    | (with_reducible apply pl_lst
       · nofun
       · exact of_decide_eq_true rfl)
    | (with_reducible apply pv_call
       · nofun
       · assumption)
    | (with_reducible apply pl_call
       · nofun
       · assumption)
    | (with_reducible apply pv_callK
       · nofun
       · nofun
       · assumption)
    | (with_reducible apply pv_b
       · nofun
       · first | exact fun _ => len_t | exact fun _ => len_s (by assumption) | exact fun _ => rfl)
    | (with_reducible apply pv_bS
       · nofun
       · exact fun _ l => len_l (l.get (by assumption)))
    | (with_reducible apply pv_bin
       · nofun
       · nofun
       · first | exact fun _ => le_i | exact fun _ => lt_i | exact fun _ => gt_i | exact fun _ => ge_i | exact fun _ => eq_i | exact fun _ => ne_i | exact fun _ => eq_s | exact fun _ => ne_s | exact fun _ => in_two | exact fun _ => ix_t rfl | exact fun _ => rfl)
    | (with_reducible apply pv_binS
       · nofun
       · nofun
       · exact fun _ l => ix_l (l.get (by assumption)) rfl)
    | (with_reducible apply pv_chain
       · nofun
       · nofun
       · exact fun _ => le_i
       · (intro _
          nofun)
       · exact fun _ _ => le_i)
    | (with_reducible apply pv_bm
       · nofun
       · nofun
       · exact fun _ => rfl
       · exact fun _ => rfl)
    | (with_reducible apply pv_tupl
       nofun))

/-- a loop that grows a list, turn by turn -/
theorem loop_F {c : Cal} {env : Slots} {S S0 : Sto} {g : Gv} {b : Sv} {z : Iz} {xs : List D} {q : Po} (J : Slots → Prop) (K : Sto → Prop) (F : Nat → List D) (hF : F 0 = []) (hz : ∀ i S', K S' → z.at i S' = some xs[i]?) (hfu : xs.length < z.fuel S)
    (step : ∀ i (hi : i < xs.length) env S', J env → K S' → Acc S0 q (F i) S' → ∃ env1, g (xs[i]'hi) env S' = some (env1, S') ∧ ∃ env2 S'', b c env1 S' = .nx env2 S'' ∧ J env2 ∧ K S'' ∧ Acc S0 q (F (i + 1)) S'')
    (hJ : J env) (hK : K S) (hA : Acc S0 q [] S) : ∃ env2 S2, forF z g b c (z.fuel S) 0 env S = .nx env2 S2 ∧ J env2 ∧ K S2 ∧ Acc S0 q (F xs.length) S2 := by
  have key := for_inv (c := c) (z := z) (g := g) (b := b) (xs := xs) (fun i env S' => J env ∧ K S' ∧ Acc S0 q (F i) S') (fun _ => False) (fun i _ S' h => hz i S' h.2.1) (fun i hi env S' hI => by
    obtain ⟨env1, h1, env2, S'', h2, h3, h4, h5⟩ := step i hi env S' hI.1 hI.2.1 hI.2.2
    exact ⟨env1, S', h1, .inl ⟨env2, S'', .inl h2, h3, h4, h5⟩⟩) (z.fuel S) 0 env S ⟨hJ, hK, by rw [hF]; exact hA⟩ (by omega) (Nat.zero_le _)
  rcases key with ⟨env2, S2, e2, j2, k2, a2⟩ | ⟨h, _⟩
  · exact ⟨env2, S2, e2, j2, k2, a2⟩
  · exact h.elim
theorem run_enm {c : Cal} {env : Slots} {S S1 : Sto} {e : Ev} {p : Po} {k : Nat} {xs : List D} (he : e c env S = .ok (.obj p) S1) (hp : S1.get p = some (.lst k xs)) : iEnm (aCons e aNil) c env S = .ok (.enm p) S1 := by
  unfold iEnm aCons
  rw [he]
  show (match seqD (.obj p) S1 with | some _ => Rs.ok (Iz.enm p) S1 | none => .no) = _
  rw [seqD_lst hp]
theorem run_rng {c : Cal} {env : Slots} {S S1 : Sto} {e : Ev} {m : Nat} (he : e c env S = .ok (.int (m : Nat)) S1) (hm : m < 1000) : iRange (aCons e aNil) c env S = .ok (.rng 0 m) S1 := by
  unfold iRange aCons
  rw [he]
  show (match smallI (m : Int) with | true => Rs.ok (Iz.rng 0 (m : Int).toNat) S1 | false => .no) = _
  have : smallI (m : Int) = true := by unfold smallI; exact Nat.blt_eq.mpr (Nat.lt_of_le_of_lt (show (m : Int).natAbs ≤ 1000 by omega) (by decide))
  rw [this]; rfl
/-- a part of a new list -/
theorem pl_sln {c : Cal} {env : Slots} {S : Sto} {a : Ev} {lo hi : Ov} {xs : List D} {l h : Option Int} (ha : Pl c env S a xs) (hl : Po' c env S lo l) (hh : Po' c env S hi h) : Pl c env S (eSl a lo hi) (cutD xs l h) := fun S1 k => by
  obtain ⟨p, S2, e2, l2, g2, _⟩ := ha S1 k
  obtain ⟨S3, e3, l3⟩ := hl S2 (k.trans l2)
  obtain ⟨S4, e4, l4⟩ := hh S3 (k.trans (l2.trans l3))
  refine ⟨S4.nx, S4.add (.lst 0 (cutD xs l h)), ?_, l2.trans (l3.trans (l4.trans (le_add l4.wf))), add_get, Nat.le_trans l2.nx (Nat.le_trans l3.nx l4.nx)⟩
  unfold eSl; rw [e2]; show Rs.bind (lo c env S2) _ = _; rw [e3]; show Rs.bind (hi c env S3) _ = _; rw [e4]
  show dCut (.obj p) l h S4 = _
  unfold dCut
  rw [seqD_lst ((l3.trans l4).get g2)]
  exact mkO_eq l4.wf
/-! ### states drawn -/
def nmB (i : Nat) : List Nat := [[97], [97, 98], [98], [122, 122, 122, 122, 122, 122, 122, 122]].getD i []
def nuB (i : Nat) : Int := [0, -1, 100000000000000000000000000000, 1 - 1000000000000000000000000000000].getD i 0
def anA (i : Nat) : D := [.non, .bl true, .bl false, .int 0, .int 1, .int (-7), .int 10000000000000].getD i .non
def staZ : List Int := [5, 5, 7, 4, 4, 4, 4, 9, 7, 7, 7, 7, 5, 31]
def dN (L : List Int) (i : Nat) : Nat := (L.getD i 0).toNat
def bkF (L : List Int) (m : Nat) : List D := (List.range m).map fun i : Nat => .tup true [.str (nmB i), .int (nuB (dN L (3 + i)))]
def anF (L : List Int) (m : Nat) : List D := (List.range m).map fun i : Nat => .tup true [.int (2 * (i : Int) + ((dN L 7 % 2 : Nat) : Int)), .int (1 + (dN L 7 : Int)), anA (dN L (8 + i))]
def msN (a b : Nat) : Nat → List D
  | 0 => []
  | k + 1 => (msN a b k).take (a % (k + 1)) ++ [.int (((7 * k + b) % 31 : Nat) : Int)] ++ (msN a b k).drop (a % (k + 1))
def staF (L : List Int) : D := .tup true [.tup true (bkF L (dN L 0)), .tup true (anF L (dN L 1)), .tup true (msN (dN L 12) (dN L 13) (1 + dN L 2))]
theorem dN_at {L : List Int} (h : Dig L staZ) {i : Nat} {z : Nat} (hz : staZ[i]? = some (z : Int)) : L[i]? = some ((dN L i : Nat) : Int) ∧ dN L i < z := by
  have hi : i < L.length := by
    rw [h.1]
    by_cases hi : i < staZ.length
    · exact hi
    · rw [List.getElem?_eq_none (by omega)] at hz; cases hz
  have e := List.getElem?_eq_getElem hi
  have := h.2 i _ _ e hz
  have ed : dN L i = (L[i]).toNat := by unfold dN; rw [List.getD_eq_getElem?_getD, e]; rfl
  rw [ed]
  refine ⟨?_, by omega⟩
  rw [e]
  congr 1
  omega
theorem risD_strs : ∀ m ≤ 4, ∀ f : Nat → Int, risD (((List.range m).map fun i => D.tup true [.str (nmB i), .int (f i)]).map fstD) = true := by
  intro m hm f
  rw [List.map_map]
  have : (fstD ∘ fun i => D.tup true [.str (nmB i), .int (f i)]) = fun i => .str (nmB i) := rfl
  rw [this]
  revert m
  decide
theorem risD_ints (c : Int) : ∀ m : Nat, risD ((List.range' m 4).map fun i : Nat => D.int (2 * (i : Int) + c)) = true := fun m => by
  simp only [List.range', List.map_cons, List.map_nil, risD, ltD, Bool.and_true, Bool.and_eq_true, decide_eq_true_eq]
  omega
theorem risD_ints' (c : Int) : ∀ m ≤ 4, risD ((List.range m).map fun i : Nat => D.int (2 * (i : Int) + c)) = true := fun m hm => by
  match m, hm with
  | 0, _ => rfl
  | 1, _ => rfl
  | 2, _ => simp only [List.range_succ, List.range_zero, List.nil_append, List.map_append, List.map_cons, List.map_nil, List.cons_append, risD, ltD, Bool.and_true, Bool.and_eq_true, decide_eq_true_eq]; omega
  | 3, _ => simp only [List.range_succ, List.range_zero, List.nil_append, List.map_append, List.map_cons, List.map_nil, List.cons_append, risD, ltD, Bool.and_true, Bool.and_eq_true, decide_eq_true_eq]; omega
  | 4, _ => simp only [List.range_succ, List.range_zero, List.nil_append, List.map_append, List.map_cons, List.map_nil, List.cons_append, risD, ltD, Bool.and_true, Bool.and_eq_true, decide_eq_true_eq]; omega
theorem msN_ok : ∀ a < 5, ∀ b < 31, ∀ k < 7, memB (.tup true (msN a b (1 + k))) = true := by decide +kernel
theorem bkF_ok {L : List Int} (h : Dig L staZ) : ∀ x ∈ bkF L (dN L 0), BokC x := fun x hx => by
  obtain ⟨i, hi, rfl⟩ := List.mem_map.mp hx
  have h0 := (dN_at h (i := 0) (z := 5) rfl).2
  have hi4 : i < 4 := by have := List.mem_range.mp hi; omega
  have hz : dN L (3 + i) < 4 := by
    match i, hi4 with
    | 0, _ => exact (dN_at h (i := 3) (z := 4) rfl).2
    | 1, _ => exact (dN_at h (i := 4) (z := 4) rfl).2
    | 2, _ => exact (dN_at h (i := 5) (z := 4) rfl).2
    | 3, _ => exact (dN_at h (i := 6) (z := 4) rfl).2
  have c1 : ∀ i < 4, nameB (.str (nmB i)) = true := by decide
  have c2 : ∀ i < 4, (nuB i).natAbs < 10 ^ 30 := by decide
  exact ⟨_, _, rfl, c1 i hi4, c2 _ hz⟩
theorem anF_ok {L : List Int} (h : Dig L staZ) : ∀ x ∈ anF L (dN L 1), AnC x := fun x hx => by
  obtain ⟨i, hi, rfl⟩ := List.mem_map.mp hx
  have h0 := (dN_at h (i := 1) (z := 5) rfl).2
  have h7 := (dN_at h (i := 7) (z := 9) rfl).2
  have hi4 : i < 4 := by have := List.mem_range.mp hi; omega
  have hz : dN L (8 + i) < 7 := by
    match i, hi4 with
    | 0, _ => exact (dN_at h (i := 8) (z := 7) rfl).2
    | 1, _ => exact (dN_at h (i := 9) (z := 7) rfl).2
    | 2, _ => exact (dN_at h (i := 10) (z := 7) rfl).2
    | 3, _ => exact (dN_at h (i := 11) (z := 7) rfl).2
  have c1 : ∀ i < 7, ansB (anA i) = true := by decide
  refine ⟨_, _, _, rfl, by omega, by omega, by omega, by omega, c1 _ hz, fun j hj => ?_⟩
  generalize dN L (8 + i) = y at hz hj
  match y, hz with
  | 0, _ => cases hj
  | 1, _ => cases hj
  | 2, _ => cases hj
  | 3, _ => cases hj; decide
  | 4, _ => cases hj; decide
  | 5, _ => cases hj; decide
  | 6, _ => cases hj; decide
theorem msN_mem (a b : Nat) : ∀ (k : Nat) (x : D), x ∈ msN a b k → MemOk x
  | 0, x, h => by cases h
  | k + 1, x, h => by
    simp only [msN, List.mem_append, List.mem_singleton] at h
    rcases h with (h | h) | h
    · exact msN_mem a b k x (List.mem_of_mem_take h)
    · exact ⟨_, h, by omega, by omega⟩
    · exact msN_mem a b k x (List.mem_of_mem_drop h)
theorem bok_ent {x : D} (h : BokC x) : bokEB x = true := by
  obtain ⟨nm, v, rfl, h1, h2⟩ := h
  show (nameB (.str nm) && intB (.int v)) = true
  rw [h1]; rfl
theorem an_ena {x : D} (h : AnC x) : enaB x = true := by
  obtain ⟨a, s, e, rfl, h1, h2, h3, h4, h5, h6⟩ := h
  show (frmB 0 9 (.int a) && (frmB 1 1000000000 (.int s) && ansB e)) = true
  rw [h5]
  simp only [frmB, Bool.and_eq_true, decide_eq_true_eq]
  exact ⟨⟨h1, h2⟩, ⟨h3, h4⟩, trivial⟩
theorem staF_ok {L : List Int} (h : Dig L staZ) : staB (staF L) = true := by
  have h0 := (dN_at h (i := 0) (z := 5) rfl).2
  have h1 := (dN_at h (i := 1) (z := 5) rfl).2
  have h2 := (dN_at h (i := 2) (z := 7) rfl).2
  have h12 := (dN_at h (i := 12) (z := 5) rfl).2
  have h13 := (dN_at h (i := 13) (z := 31) rfl).2
  show (bookB _ && (anssB _ && memB _)) = true
  rw [msN_ok _ h12 _ h13 _ h2, Bool.and_true, Bool.and_eq_true]
  refine ⟨?_, ?_⟩
  · show ((bkF L (dN L 0)).all bokEB && risD ((bkF L (dN L 0)).map fstD)) = true
    rw [List.all_eq_true.mpr fun x hx => bok_ent (bkF_ok h x hx), Bool.true_and]
    exact risD_strs _ (by omega) _
  · show ((anF L (dN L 1)).all enaB && risD ((anF L (dN L 1)).map fstD)) = true
    rw [List.all_eq_true.mpr fun x hx => an_ena (anF_ok h x hx), Bool.true_and]
    have := risD_ints' ((dN L 7 % 2 : Nat) : Int) (dN L 1) (by omega)
    unfold anF
    rw [List.map_map]
    exact this
theorem range_snoc {α : Type} (f : Nat → α) (m : Nat) : (List.range (m + 1)).map f = (List.range m).map f ++ [f m] := by rw [List.range_succ, List.map_append]; rfl
section
variable {S : Sto} {n : Nat} {d : D} {t : Tyn}
theorem v_law_state {p : Po} {mm : Nat} {L : List Int} (hp : S.get p = some (.lst mm (L.map .int))) (h : Dig L staZ) : Fv (cal (n + 1)) 309 [.obj p] S (staF L) := by
  refine fv_body (c := cal n) (fun _ _ => rfl) ?_
  intro S1 l1
  have h0 := dN_at h (i := 0) (z := 5) rfl
  have h1 := dN_at h (i := 1) (z := 5) rfl
  have h2 := dN_at h (i := 2) (z := 7) rfl
  have h7 := dN_at h (i := 7) (z := 9) rfl
  have h12 := dN_at h (i := 12) (z := 5) rfl
  have h13 := dN_at h (i := 13) (z := 31) rfl
  have dg : ∀ (env : Slots) (S6 : Sto) (e : Ev) (k x : Nat), env[0]? = some (some (.obj p)) → S6.get p = some (.lst mm (L.map .int)) → Pv (cal n) env S6 e (.int (k : Nat)) → L[k]? = some ((x : Nat) : Int) → Pv (cal n) env S6 (eBin dSub' (eVar 0) e) (.int (x : Nat)) := fun env S6 e k x h5 g6 he hx =>
    pv_ixo (pv_var h5) g6 he (ix_int hx)
  have hp1 := l1.get hp
  have sm : ∀ m : Nat, m < 100 → smallI (m : Int) = true := fun m hm => by unfold smallI; exact Nat.blt_eq.mpr (Nat.lt_of_le_of_lt (show (m : Int).natAbs ≤ 100 by omega) (by decide))
  -- the book
  have l2 := le_add (o := .lst 0 []) l1.wf
  have ne : p ≠ S1.nx := fun e => by rw [e, l1.wf.nx_none] at hp1; cases hp1
  have a2 : Acc S1 S1.nx [] (S1.add (.lst 0 [])) := ⟨l2, Nat.le_refl _, add_get⟩
  have r1 := run_new (c := cal n) (env := [some (.obj p), none, none, none, none, none]) (i := 1) l1.wf
  have hp2 := l2.get hp1
  generalize hS2 : S1.add (.lst 0 []) = S2 at l2 a2 r1 hp2
  generalize S1.nx = q1 at a2 r1 ne
  let nms : List D := [.str [97], .str [97, 98], .str [98], .str [122, 122, 122, 122, 122, 122, 122, 122]]
  obtain ⟨p2, S3, e3, l3, g3, n3⟩ := (pl_sln (c := cal n) (env := [some (.obj p), some (.obj q1), none, none, none, none]) (S := S2) (pl_lst (ds := nms) (a := (aCons (eC (.str [97])) (aCons (eC (.str [97, 98])) (aCons (eC (.str [98])) (aCons (eC (.str [122, 122, 122, 122, 122, 122, 122, 122])) aNil))))) (pa_c pv_c (pa_c pv_c (pa_c pv_c (pa_c pv_c pa_n)))) (of_decide_eq_true rfl)) po_no (po_part (dg _ S2 (eC (.int 0)) 0 _ rfl hp2 pv_c h0.1))) S2 (.refl l2.wf)
  rw [cut_to] at g3
  have hlm : (enmL (nms.take (dN L 0))).length = dN L 0 := by
    rw [enmL_len, List.length_take]
    show min (dN L 0) 4 = _
    omega
  obtain ⟨env4, S4, e4, ⟨o2, o3, j4⟩, ⟨k4, k4'⟩, a4⟩ := loop_F (c := cal n) (S0 := S1) (S := S3) (z := .enm p2) (xs := enmL (nms.take (dN L 0))) (q := q1) (env := [some (.obj p), some (.obj q1), none, none, none, none]) (g := gT [(gN 2), (gN 3)]) (b := (sSeq (sX (eBM isLstD mAppend (eVar 1) (aCons (eTup (aCons (eVar 3) (aCons (eBin dSub' (eLst (aCons (eC (.int (0))) (aCons (eNeg (eC (.int (1)))) (aCons (eBin dPow (eC (.int (10))) (eC (.int (29)))) (aCons (eBin dSub (eC (.int (1))) (eBin dPow (eC (.int (10))) (eC (.int (30))))) aNil))))) (eBin dSub' (eVar 0) (eBin dAdd (eC (.int (3))) (eVar 2)))) aNil))) aNil)))
 sNil)) (fun env => ∃ o2 o3, env = [some (.obj p), some (.obj q1), o2, o3, none, none]) (fun S' => Wf S' ∧ S'.get p = some (.lst mm (L.map .int)) ∧ S'.get p2 = some (.lst 0 (nms.take (dN L 0)))) (bkF L) rfl (fun i S' hK => at_enm (seqD_lst hK.2.2) hK.1) (by
      rw [hlm]
      unfold Iz.fuel
      dsimp only
      rw [seqD_lst g3]
      show dN L 0 < (nms.take (dN L 0)).length + 1
      rw [List.length_take]
      show dN L 0 < min (dN L 0) 4 + 1
      omega) (fun i hi env S' hJ hK hA => by
      obtain ⟨o2, o3, rfl⟩ := hJ
      obtain ⟨w0, k1, k2⟩ := hK
      rw [hlm] at hi
      have hi4 : i < 4 := by omega
      have hx : ∀ hh, (enmL (nms.take (dN L 0)))[i]'hh = .tup true [.int (.ofNat i), .str (nmB i)] := fun hh => by
        rw [enmL_get (xs := nms.take (dN L 0)) (by rw [List.length_take]; show i < min (dN L 0) 4; omega) hh, List.getElem_take]
        match i, hi4 with
        | 0, _ => rfl
        | 1, _ => rfl
        | 2, _ => rfl
        | 3, _ => rfl
      refine ⟨[some (.obj p), some (.obj q1), some (.int (i : Nat)), some (.str (nmB i)), none, none], by rw [hx]; rfl, ?_⟩
      have hzi : L[3 + i]? = some ((dN L (3 + i) : Nat) : Int) ∧ dN L (3 + i) < 4 := by
        match i, hi4 with
        | 0, _ => exact dN_at h (i := 3) (z := 4) rfl
        | 1, _ => exact dN_at h (i := 4) (z := 4) rfl
        | 2, _ => exact dN_at h (i := 5) (z := 4) rfl
        | 3, _ => exact dN_at h (i := 6) (z := 4) rfl
      obtain ⟨S5, e5, l5⟩ := (pv_tup (c := cal n) (env := [some (.obj p), some (.obj q1), some (.int (i : Nat)), some (.str (nmB i)), none, none]) (S := S') (a := (aCons (eVar 3) (aCons (eBin dSub' (eLst (aCons (eC (.int (0))) (aCons (eNeg (eC (.int (1)))) (aCons (eBin dPow (eC (.int (10))) (eC (.int (29)))) (aCons (eBin dSub (eC (.int (1))) (eBin dPow (eC (.int (10))) (eC (.int (30))))) aNil))))) (eBin dSub' (eVar 0) (eBin dAdd (eC (.int (3))) (eVar 2)))) aNil))) (ds := [.str (nmB i), .int (nuB (dN L (3 + i)))])
        (pa_c (pv_var rfl) (pa_c (pv_ixn (xs := [.int 0, .int (-1), .int 100000000000000000000000000000, .int (1 - 1000000000000000000000000000000)]) (pl_lst (pa_c pv_c (pa_c (pv_neg pv_c) (pa_c (pv_bin pv_c pv_c fun _ => rfl) (pa_c (pv_bin pv_c (y := .int 1000000000000000000000000000000) (pv_bin pv_c pv_c fun _ => rfl) fun _ => rfl) pa_n)))) (of_decide_eq_true rfl)) (dg _ S' (eBin dAdd (eC (.int (3))) (eVar 2)) (3 + i) _ rfl k1 (Pv.to (pv_addi pv_c (pv_var rfl)) (by congr 1)) hzi.1) (by
          generalize dN L (3 + i) = y at hzi
          match y, hzi.2 with
          | 0, _ => rfl
          | 1, _ => rfl
          | 2, _ => rfl
          | 3, _ => rfl)) pa_n)) (of_decide_eq_true rfl)) S' (.refl w0)
      have r6 := run_append (c := cal n) (env := [some (.obj p), some (.obj q1), some (.int (i : Nat)), some (.str (nmB i)), none, none]) (i := 1) rfl hA.at_ (by unfold bkF big; rw [List.length_map, List.length_range]; omega) e5 l5
      have hA2 := (hA.mono l5).push (ys := bkF L i ++ [.tup true [.str (nmB i), .int (nuB (dN L (3 + i)))]])
      refine ⟨_, _, (sSeq_run r6).trans rfl, ⟨_, _, rfl⟩, ⟨hA2.le.wf, by rw [Sto.put_ne ne]; exact l5.get k1, ?_⟩, ?_⟩
      · rw [Sto.put_ne]
        · exact l5.get k2
        · rintro rfl
          have := hA.at_
          rw [k2] at this
          have e1 := congrArg (fun o => match o with | some (Ob.lst _ xs) => xs.length | _ => 0) this
          simp only [List.length_take] at e1
          have e2 : (bkF L i).length = i := by unfold bkF; simp
          rw [e2] at e1
          have : min (dN L 0) 4 = i := e1
          omega
      · rw [show bkF L (i + 1) = bkF L i ++ [.tup true [.str (nmB i), .int (nuB (dN L (3 + i)))]] from range_snoc _ _]
        exact hA2) ⟨_, _, rfl⟩ ⟨l3.wf, l3.get hp2, g3⟩ (a2.mono l3)
  rw [hlm] at a4
  have rb := run_enm e3 g3
  subst j4
  -- the answers
  have s41 := a4.at_
  have n41 := a4.le.wf _ _ s41
  have l5 := le_add (o := .lst 0 []) k4
  have r5 := run_new (c := cal n) (env := [some (.obj p), some (.obj q1), o2, o3, none, none]) (i := 4) k4
  have hp5 := l5.get k4'.1
  have b5 := l5.get s41
  have a5 : Acc S1 S4.nx [] (S4.add (.lst 0 [])) := ⟨a4.le.trans l5, a4.le.nx, add_get⟩
  have np4 : p ≠ S4.nx := fun e => by have := k4 _ _ k4'.1; rw [e] at this; omega
  have nq4 : q1 ≠ S4.nx := fun e => by rw [e] at n41; omega
  generalize hS5 : S4.add (.lst 0 []) = S5 at l5 r5 hp5 b5 a5
  generalize S4.nx = q2 at r5 a5 np4 nq4
  obtain ⟨S6, e6, l6⟩ := dg [some (.obj p), some (.obj q1), o2, o3, some (.obj q2), none] S5 (eC (.int 1)) 1 _ rfl hp5 pv_c h1.1 S5 (.refl l5.wf)
  have rr6 := run_rng e6 (by omega)
  obtain ⟨env7, S7, e7, ⟨o2', o3', j7⟩, ⟨w7, k7, k7'⟩, a7⟩ := loop_F (c := cal n) (S0 := S1) (S := S6) (z := .rng 0 (dN L 1)) (xs := rngL 0 (dN L 1)) (q := q2) (env := [some (.obj p), some (.obj q1), o2, o3, some (.obj q2), none]) (g := gN 2) (b := (sSeq (sX (eBM isLstD mAppend (eVar 4) (aCons (eTup (aCons (eBin dAdd (eBin dMul (eC (.int (2))) (eVar 2)) (eBin dMod (eBin dSub' (eVar 0) (eC (.int (7)))) (eC (.int (2))))) (aCons (eBin dAdd (eC (.int (1))) (eBin dSub' (eVar 0) (eC (.int (7))))) (aCons (eBin dSub' (eLst (aCons (eC .non) (aCons (eC (.bl true)) (aCons (eC (.bl false)) (aCons (eC (.int (0))) (aCons (eC (.int (1))) (aCons (eNeg (eC (.int (7)))) (aCons (eBin dPow (eC (.int (10))) (eC (.int (13)))) aNil)))))))) (eBin dSub' (eVar 0) (eBin dAdd (eC (.int (8))) (eVar 2)))) aNil)))) aNil)))
 sNil)) (fun env => ∃ o2 o3, env = [some (.obj p), some (.obj q1), o2, o3, some (.obj q2), none]) (fun S' => Wf S' ∧ S'.get p = some (.lst mm (L.map .int)) ∧ S'.get q1 = some (.lst 0 (bkF L (dN L 0)))) (anF L) rfl (fun i S' hK => at_rng) (by rw [rngL_len]; show dN L 1 < dN L 1 + 1; omega) (fun i hi env S' hJ hK hA => by
      obtain ⟨o2, o3, rfl⟩ := hJ
      obtain ⟨w0, k1, k2⟩ := hK
      rw [rngL_len] at hi
      have hi4 : i < 4 := by omega
      refine ⟨[some (.obj p), some (.obj q1), some (.int (i : Nat)), o3, some (.obj q2), none], by rw [rngL_get (by rw [rngL_len]; exact hi)]; show some (_, S') = _; rw [Int.zero_add]; rfl, ?_⟩
      have hzi : L[8 + i]? = some ((dN L (8 + i) : Nat) : Int) ∧ dN L (8 + i) < 7 := by
        match i, hi4 with
        | 0, _ => exact dN_at h (i := 8) (z := 7) rfl
        | 1, _ => exact dN_at h (i := 9) (z := 7) rfl
        | 2, _ => exact dN_at h (i := 10) (z := 7) rfl
        | 3, _ => exact dN_at h (i := 11) (z := 7) rfl
      have fm : ((dN L 7 : Nat) : Int).fmod 2 = ((dN L 7 % 2 : Nat) : Int) := by
        rw [Int.fmod_eq_emod_of_nonneg _ (by decide)]; omega
      obtain ⟨S8, e8, l8⟩ := (pv_tup (c := cal n) (env := [some (.obj p), some (.obj q1), some (.int (i : Nat)), o3, some (.obj q2), none]) (S := S') (a := (aCons (eBin dAdd (eBin dMul (eC (.int (2))) (eVar 2)) (eBin dMod (eBin dSub' (eVar 0) (eC (.int (7)))) (eC (.int (2))))) (aCons (eBin dAdd (eC (.int (1))) (eBin dSub' (eVar 0) (eC (.int (7))))) (aCons (eBin dSub' (eLst (aCons (eC .non) (aCons (eC (.bl true)) (aCons (eC (.bl false)) (aCons (eC (.int (0))) (aCons (eC (.int (1))) (aCons (eNeg (eC (.int (7)))) (aCons (eBin dPow (eC (.int (10))) (eC (.int (13)))) aNil)))))))) (eBin dSub' (eVar 0) (eBin dAdd (eC (.int (8))) (eVar 2)))) aNil)))) (ds := [.int (2 * (i : Int) + ((dN L 7 % 2 : Nat) : Int)), .int (1 + (dN L 7 : Int)), anA (dN L (8 + i))])
        (pa_c (Pv.to (pv_addi (pv_mulc pv_c (pv_var rfl) rfl) (pv_mod (dg _ S' (eC (.int 7)) 7 _ rfl k1 pv_c h7.1) pv_c (by decide))) (by rw [fm])) (pa_c (pv_addi pv_c (dg _ S' (eC (.int 7)) 7 _ rfl k1 pv_c h7.1)) (pa_c (pv_ixn (xs := [.non, .bl true, .bl false, .int 0, .int 1, .int (-7), .int 10000000000000]) (pl_lst (pa_c pv_c (pa_c pv_c (pa_c pv_c (pa_c pv_c (pa_c pv_c (pa_c (pv_neg pv_c) (pa_c (pv_bin pv_c pv_c fun _ => rfl) pa_n))))))) (of_decide_eq_true rfl)) (dg _ S' (eBin dAdd (eC (.int (8))) (eVar 2)) (8 + i) _ rfl k1 (Pv.to (pv_addi pv_c (pv_var rfl)) (by congr 1)) hzi.1) (by
          generalize dN L (8 + i) = y at hzi
          match y, hzi.2 with
          | 0, _ => rfl
          | 1, _ => rfl
          | 2, _ => rfl
          | 3, _ => rfl
          | 4, _ => rfl
          | 5, _ => rfl
          | 6, _ => rfl)) pa_n))) (of_decide_eq_true rfl)) S' (.refl w0)
      have r6 := run_append (c := cal n) (env := [some (.obj p), some (.obj q1), some (.int (i : Nat)), o3, some (.obj q2), none]) (i := 4) rfl hA.at_ (by unfold anF big; rw [List.length_map, List.length_range]; omega) e8 l8
      have hA2 := (hA.mono l8).push (ys := anF L i ++ [.tup true [.int (2 * (i : Int) + ((dN L 7 % 2 : Nat) : Int)), .int (1 + (dN L 7 : Int)), anA (dN L (8 + i))]])
      refine ⟨_, _, (sSeq_run r6).trans rfl, ⟨_, _, rfl⟩, ⟨hA2.le.wf, by rw [Sto.put_ne np4]; exact l8.get k1, by rw [Sto.put_ne nq4]; exact l8.get k2⟩, ?_⟩
      rw [show anF L (i + 1) = anF L i ++ [.tup true [.int (2 * (i : Int) + ((dN L 7 % 2 : Nat) : Int)), .int (1 + (dN L 7 : Int)), anA (dN L (8 + i))]] from range_snoc _ _]
      exact hA2) ⟨_, _, rfl⟩ ⟨l6.wf, l6.get hp5, l6.get b5⟩ (a5.mono l6)
  rw [rngL_len] at a7
  subst j7
  -- the members
  have s71 := a7.at_
  have n71 := a7.le.wf _ _ s71
  have n72 := w7 _ _ k7'
  have l8 := le_add (o := .lst 0 []) w7
  have r8 := run_new (c := cal n) (env := [some (.obj p), some (.obj q1), o2', o3', some (.obj q2), none]) (i := 5) w7
  have hp8 := l8.get k7
  have b8 := l8.get k7'
  have c8 := l8.get s71
  have a8 : Acc S1 S7.nx [] (S7.add (.lst 0 [])) := ⟨a7.le.trans l8, a7.le.nx, add_get⟩
  have np7 : p ≠ S7.nx := fun e => by have := w7 _ _ k7; rw [e] at this; omega
  have nq7 : q1 ≠ S7.nx := fun e => by rw [e] at n72; omega
  have nr7 : q2 ≠ S7.nx := fun e => by rw [e] at n71; omega
  generalize hS8 : S7.add (.lst 0 []) = S8 at l8 r8 hp8 b8 c8 a8
  generalize S7.nx = q3 at r8 a8 np7 nq7 nr7
  obtain ⟨S9, e9, l9⟩ := (Pv.to (pv_addi (c := cal n) (env := [some (.obj p), some (.obj q1), o2', o3', some (.obj q2), some (.obj q3)]) (S := S8) (a := eC (.int 1)) pv_c (dg [some (.obj p), some (.obj q1), o2', o3', some (.obj q2), some (.obj q3)] S8 (eC (.int 2)) 2 _ rfl hp8 pv_c h2.1)) (d' := .int ((1 + dN L 2 : Nat) : Int)) (by first | rfl | (congr 1; omega))) S8 (.refl l8.wf)
  have rr9 := run_rng e9 (by omega)
  obtain ⟨env10, S10, e10, ⟨o2'', o3'', j10⟩, ⟨w10, k10, k10', k10''⟩, a10⟩ := loop_F (c := cal n) (S0 := S1) (S := S9) (z := .rng 0 (1 + dN L 2)) (xs := rngL 0 (1 + dN L 2)) (q := q3) (env := [some (.obj p), some (.obj q1), o2', o3', some (.obj q2), some (.obj q3)]) (g := gN 2) (b := (sSeq (sX (eBM isLstD mInsert (eVar 5) (aCons (eBin dMod (eBin dSub' (eVar 0) (eC (.int (12)))) (eBin dAdd (eVar 2) (eC (.int (1))))) (aCons (eBin dMod (eBin dAdd (eBin dMul (eC (.int (7))) (eVar 2)) (eBin dSub' (eVar 0) (eC (.int (13))))) (eC (.int (31)))) aNil))))
 sNil)) (fun env => ∃ o2 o3, env = [some (.obj p), some (.obj q1), o2, o3, some (.obj q2), some (.obj q3)]) (fun S' => Wf S' ∧ S'.get p = some (.lst mm (L.map .int)) ∧ S'.get q1 = some (.lst 0 (bkF L (dN L 0))) ∧ S'.get q2 = some (.lst 0 (anF L (dN L 1)))) (msN (dN L 12) (dN L 13)) rfl (fun i S' hK => at_rng) (by rw [rngL_len]; show 1 + dN L 2 < 1 + dN L 2 + 1; omega) (fun i hi env S' hJ hK hA => by
      obtain ⟨o2, o3, rfl⟩ := hJ
      obtain ⟨w0, k1, k2, k3⟩ := hK
      rw [rngL_len] at hi
      refine ⟨[some (.obj p), some (.obj q1), some (.int (i : Nat)), o3, some (.obj q2), some (.obj q3)], by rw [rngL_get (by rw [rngL_len]; exact hi)]; show some (_, S') = _; rw [Int.zero_add]; rfl, ?_⟩
      have f1 : ((dN L 12 : Nat) : Int).fmod ((i : Int) + 1) = ((dN L 12 % (i + 1) : Nat) : Int) := by
        rw [Int.fmod_eq_emod_of_nonneg _ (by omega)]
        exact (Int.natCast_emod (dN L 12) (i + 1)).symm
      have f2 : (7 * (i : Int) + ((dN L 13 : Nat) : Int)).fmod 31 = (((7 * i + dN L 13) % 31 : Nat) : Int) := by
        rw [Int.fmod_eq_emod_of_nonneg _ (by decide)]; omega
      obtain ⟨S11, e11, l11⟩ := (pa_c (c := cal n) (env := [some (.obj p), some (.obj q1), some (.int (i : Nat)), o3, some (.obj q2), some (.obj q3)]) (S := S') (a := (eBin dMod (eBin dSub' (eVar 0) (eC (.int (12)))) (eBin dAdd (eVar 2) (eC (.int (1)))))) (r := (aCons (eBin dMod (eBin dAdd (eBin dMul (eC (.int (7))) (eVar 2)) (eBin dSub' (eVar 0) (eC (.int (13))))) (eC (.int (31)))) aNil)) (Pv.to (pv_mod (dg _ S' (eC (.int 12)) 12 _ rfl k1 pv_c h12.1) (pv_addi (pv_var rfl) pv_c) (by omega)) (d' := .int ((dN L 12 % (i + 1) : Nat) : Int)) (by rw [f1])) (pa_c (Pv.to (pv_mod (pv_addi (pv_mulc pv_c (pv_var rfl) rfl) (dg _ S' (eC (.int 13)) 13 _ rfl k1 pv_c h13.1)) (b := eC (.int 31)) pv_c (by decide)) (d' := .int (((7 * i + dN L 13) % 31 : Nat) : Int)) (by rw [f2])) pa_n)) S' (.refl w0)
      have hml : ∀ k, (msN (dN L 12) (dN L 13) k).length = k := fun k => by
        induction k with
        | zero => rfl
        | succ k ih =>
          have : dN L 12 % (k + 1) < k + 1 := Nat.mod_lt _ (by omega)
          simp only [msN, List.length_append, List.length_take, List.length_drop, List.length_cons, List.length_nil, ih]
          omega
      have r6 : sX (eBM isLstD mInsert (eVar 5) (aCons (eBin dMod (eBin dSub' (eVar 0) (eC (.int (12)))) (eBin dAdd (eVar 2) (eC (.int (1))))) (aCons (eBin dMod (eBin dAdd (eBin dMul (eC (.int (7))) (eVar 2)) (eBin dSub' (eVar 0) (eC (.int (13))))) (eC (.int (31)))) aNil))) (cal n) [some (.obj p), some (.obj q1), some (.int (i : Nat)), o3, some (.obj q2), some (.obj q3)] S'
          = .nx [some (.obj p), some (.obj q1), some (.int (i : Nat)), o3, some (.obj q2), some (.obj q3)] (S11.put q3 (.lst 0 (msN (dN L 12) (dN L 13) (i + 1)))) := by
        unfold sX eBM
        have h1 : isLstD (.obj q3) S' = true := by unfold isLstD lstD; dsimp only; rw [seqD_lst hA.at_]; rfl
        show Rs.bindS (match isLstD (.obj q3) S' with | true => (aCons _ _ (cal n) _ S').bind fun ds S2 => mInsert (.obj q3) ds S2 | false => .no) _ _ = _
        rw [h1]
        dsimp only
        rw [e11]
        show Rs.bindS (match S11.get q3 with | some (.lst 0 xs) => (match Nat.blt xs.length big && Nat.blt (dN L 12 % (i + 1)) (2 ^ 63) with | true => Rs.ok D.non (S11.put q3 (.lst 0 (xs.take (dN L 12 % (i + 1)) ++ [.int (((7 * i + dN L 13) % 31 : Nat) : Int)] ++ xs.drop (dN L 12 % (i + 1))))) | false => .no) | _ => .no) _ _ = _
        rw [l11.get hA.at_]
        show Rs.bindS (match Nat.blt (msN (dN L 12) (dN L 13) i).length big && Nat.blt (dN L 12 % (i + 1)) (2 ^ 63) with | true => _ | false => .no) _ _ = _
        have b1 : Nat.blt (msN (dN L 12) (dN L 13) i).length big = true := Nat.blt_eq.mpr (by rw [hml]; unfold big; omega)
        have b2 : Nat.blt (dN L 12 % (i + 1)) (2 ^ 63) = true := Nat.blt_eq.mpr (by have := Nat.mod_le (dN L 12) (i + 1); omega)
        rw [b1, b2]
        rfl
      have hA2 := (hA.mono l11).push (ys := msN (dN L 12) (dN L 13) (i + 1))
      refine ⟨_, _, (sSeq_run r6).trans rfl, ⟨_, _, rfl⟩, ⟨hA2.le.wf, by rw [Sto.put_ne np7]; exact l11.get k1, by rw [Sto.put_ne nq7]; exact l11.get k2, by rw [Sto.put_ne nr7]; exact l11.get k3⟩, hA2⟩) ⟨_, _, rfl⟩ ⟨l9.wf, l9.get hp8, l9.get b8, l9.get c8⟩ (a8.mono l9)
  rw [rngL_len] at a10
  subst j10
  have bt : ∀ (i : Nat) (q : Po) (xs : List D), [some (.obj p), some (.obj q1), o2'', o3'', some (.obj q2), some (.obj q3)][i]? = some (some (.obj q)) → S10.get q = some (.lst 0 xs) → Pv (cal n) [some (.obj p), some (.obj q1), o2'', o3'', some (.obj q2), some (.obj q3)] S10 (eB bTup (aCons (eVar i) aNil)) (.tup true xs) := fun i q xs hv hq =>
    pv_bS (pa_c (pv_var hv) pa_n) fun S6 l6 => by
      show (match seqD (.obj q) S6 with | some xs => Rs.ok (D.tup true xs) S6 | none => .no) = _
      rw [seqD_lst (l6.get hq)]
  obtain ⟨S12, e12, l12⟩ := ps_fin (pv_tup (pa_c (bt 1 q1 _ rfl k10') (pa_c (bt 4 q2 _ rfl k10'') (pa_c (bt 5 q3 _ rfl a10.at_) pa_n))) (of_decide_eq_true rfl)) S10 (.refl w10)
  refine ⟨S12, ?_, a10.le.trans l12⟩
  exact (sSeq_run r1).trans ((sSeq_run ((run_for rb).trans e4)).trans ((sSeq_run r5).trans ((sSeq_run ((run_for rr6).trans e7)).trans ((sSeq_run r8).trans ((sSeq_run ((run_for rr9).trans e10)).trans e12)))))
end
end Ev
set_option Elab.async false
set_option linter.all false
set_option maxRecDepth 100000
set_option maxHeartbeats 0
namespace Ev
open PySem
local macro_rules
  | `(tactic| nofun) => `(tactic| first
    | exact pv_var rfl
    | exact pv_c
    | exact pa_n
    | exact pt_yes
    | exact po_no
    | assumption
    | (with_reducible apply po_part
       nofun)
    | (with_reducible apply pa_c
       · nofun
       · nofun)
    | (with_reducible apply pt_of
       nofun)
    | (with_reducible apply pt_not
       nofun)
    | (with_reducible apply pt_or_t
       with_reducible apply Pt.to
       · nofun
       · first | rfl | (simp [*]; done))
    | (with_reducible apply pt_or
       · nofun
       · (intro _
          nofun))
    | (with_reducible apply pt_and_f
       with_reducible apply Pt.to
       · nofun
       · first | rfl | (simp [*]; done))
    | (with_reducible apply pt_and
       · nofun
       · (intro _
          nofun))
    | (with_reducible apply pv_and_f
       with_reducible apply Pv.to
       · nofun
       · first | rfl | (simp [*]; done))
    | (with_reducible apply pv_and
       · nofun
       · (intro _
          nofun))
    | (with_reducible apply pv_or_t
       with_reducible apply Pv.to
       · nofun
       · first | rfl | (simp [*]; done))
    | (with_reducible apply pv_or
       · nofun
       · (intro _
          nofun))
    | (with_reducible apply pv_not
       nofun)
    | (with_reducible apply pv_neg
       nofun)
    | (with_reducible apply pv_is
       · nofun
       · first | exact tys_of rfl | assumption)
    | (with_reducible apply pv_tup
       · nofun
       · exact of_decide_eq_true rfl)
    | (with_reducible apply pl_lst
       · nofun
       · exact of_decide_eq_true rfl)
    | (with_reducible apply pv_call
       · nofun
       · assumption)
    | (with_reducible apply pl_call
       · nofun
       · assumption)
    | (with_reducible apply pv_callK
       · nofun
       · nofun
       · assumption)
    | (with_reducible apply pv_b
       · nofun
       · first | exact fun _ => len_t | exact fun _ => len_s (by assumption) | exact fun _ => rfl)
    | (with_reducible apply pv_bS
       · nofun
       · exact fun _ l => len_l (l.get (by assumption)))
    | (with_reducible apply pv_bin
       · nofun
       · nofun
       · first | exact fun _ => le_i | exact fun _ => lt_i | exact fun _ => gt_i | exact fun _ => ge_i | exact fun _ => eq_i | exact fun _ => ne_i | exact fun _ => eq_s | exact fun _ => ne_s | exact fun _ => in_two | exact fun _ => ix_t rfl | exact fun _ => rfl)
    | (with_reducible apply pv_binS
       · nofun
       · nofun
       · exact fun _ l => ix_l (l.get (by assumption)) rfl)
    | (with_reducible apply pv_chain
       · nofun
       · nofun
       · exact fun _ => le_i
       · (intro _
          nofun)
       · exact fun _ _ => le_i)
    | (with_reducible apply pv_bm
       · nofun
       · nofun
       · exact fun _ => rfl
       · exact fun _ => rfl)
    | (with_reducible apply pv_tupl
       nofun))

/-! ### what the law asks of one ask, one row, one state -/
theorem name_gd {nm : List Nat} (h : nameB (.str nm) = true) : Gd (.str nm) ∧ rsz (.str nm) ≤ 100 := by
  obtain ⟨_, h2, h3⟩ := name_len h
  refine ⟨fun a ha => by have := h3 a ha; omega, ?_⟩
  simp only [rsz]; omega
theorem bok_gd {x : D} (h : BokC x) : Gd x ∧ depD x ≤ 1 ∧ rsz x ≤ 200 := by
  obtain ⟨nm, v, rfl, h1, h2⟩ := h
  obtain ⟨g1, g2⟩ := name_gd h1
  refine ⟨?_, by simp [depD, depDs], ?_⟩
  · simp only [Gd, Gds]
    exact ⟨g1, lt31 h2, trivial⟩
  · simp only [rsz, rszs] at g2 ⊢; omega
theorem an_gd {x : D} (h : AnC x) : Gd x ∧ depD x ≤ 1 ∧ rsz x ≤ 200 := by
  obtain ⟨a, s, e, rfl, h1, h2, h3, h4, h5, h6⟩ := h
  have e2 : (10 : Nat) ^ 31 = 10000000000000000000000000000000 := by decide
  have ge : Gd e ∧ depD e = 0 ∧ rsz e = 32 := by
    cases e with
    | non => exact ⟨trivial, rfl, rfl⟩
    | bl b => exact ⟨trivial, rfl, rfl⟩
    | int i => exact ⟨lt31 (h6 i rfl), rfl, rfl⟩
    | _ => cases h5
  refine ⟨?_, ?_, ?_⟩
  · simp only [Gd, Gds]
    exact ⟨by rw [e2]; omega, by rw [e2]; omega, ge.1, trivial⟩
  · simp only [depD, depDs]; omega
  · simp only [rsz, rszs]; omega
theorem mem_gd {x : D} (h : MemOk x) : Gd x ∧ depD x ≤ 1 ∧ rsz x ≤ 200 := by
  obtain ⟨i, rfl, h1, h2⟩ := h
  have e2 : (10 : Nat) ^ 31 = 10000000000000000000000000000000 := by decide
  exact ⟨by show i.natAbs < 10 ^ 31; rw [e2]; omega, by simp [depD], by simp [rsz]⟩
theorem tup_gd {w : Bool} {xs : List D} {n : Nat} (h : ∀ x ∈ xs, Gd x ∧ depD x ≤ n ∧ rsz x ≤ 200) (hl : xs.length ≤ 100) : Gd (.tup w xs) ∧ depD (.tup w xs) ≤ n + 1 ∧ rsz (.tup w xs) ≤ 20300 := by
  refine ⟨Gds.iff.mpr fun x hx => (h x hx).1, ?_, ?_⟩
  · simp only [depD]
    exact Nat.succ_le_succ (depDs_le fun x hx => (h x hx).2.1)
  · simp only [rsz]
    have := rszs_le (xs := xs) (n := 200) fun x hx => (h x hx).2.2
    omega
def staD (bs as ms : List D) : D := .tup true [.tup true bs, .tup true as, .tup true ms]
structure StaC (bs as ms : List D) : Prop where
  ok : staB (staD bs as ms) = true
  b : ∀ x ∈ bs, BokC x
  a : ∀ x ∈ as, AnC x
  m : ∀ x ∈ ms, MemOk x
  lb : bs.length ≤ 30
  la : as.length ≤ 30
  lm : ms.length ≤ 30
theorem sta_gd {bs as ms : List D} (h : StaC bs as ms) : Gd (staD bs as ms) ∧ depD (staD bs as ms) ≤ 3 ∧ rsz (staD bs as ms) ≤ 70000 := by
  obtain ⟨a1, a2, a3⟩ := tup_gd (w := true) (n := 1) (fun x hx => bok_gd (h.b x hx)) (by have := h.lb; omega)
  obtain ⟨b1, b2, b3⟩ := tup_gd (w := true) (n := 1) (fun x hx => an_gd (h.a x hx)) (by have := h.la; omega)
  obtain ⟨c1, c2, c3⟩ := tup_gd (w := true) (n := 1) (fun x hx => mem_gd (h.m x hx)) (by have := h.lm; omega)
  unfold staD
  refine ⟨?_, ?_, ?_⟩
  · simp only [Gd, Gds] at a1 b1 c1 ⊢
    exact ⟨a1, b1, c1, trivial⟩
  · simp only [depD, depDs] at a2 b2 c2 ⊢; omega
  · simp only [rsz, rszs] at a3 b3 c3 ⊢; omega
theorem sta_sma {bs as ms : List D} (h : StaC bs as ms) : Sma (staD bs as ms) := by
  have g : ∀ xs : List D, xs.length ≤ 30 → (∀ x ∈ xs, Sma x) → Sma (.tup true xs) := fun xs hl hx => by
    simp only [Sma]
    exact ⟨smas_of hx, by omega⟩
  have hb : ∀ x ∈ bs, Sma x := fun x hx => by
    obtain ⟨nm, v, rfl, h1, h2⟩ := h.b x hx
    have := (name_len h1).2.1
    simp only [Sma, Smas, List.length_cons, List.length_nil]
    exact ⟨⟨by unfold big; omega, trivial, trivial⟩, by omega⟩
  have ha : ∀ x ∈ as, Sma x := fun x hx => by
    obtain ⟨a, s, e, rfl, h1, h2, h3, h4, h5, h6⟩ := h.a x hx
    have : Sma e := by cases e <;> first | trivial | cases h5
    simp only [Sma, Smas, List.length_cons, List.length_nil]
    exact ⟨⟨trivial, trivial, this, trivial⟩, by omega⟩
  have hm : ∀ x ∈ ms, Sma x := fun x hx => by
    obtain ⟨i, rfl, h1, h2⟩ := h.m x hx
    trivial
  have g1 := g bs h.lb hb
  have g2 := g as h.la ha
  have g3 := g ms h.lm hm
  show Sma (.tup true [.tup true bs, .tup true as, .tup true ms])
  rw [Sma]
  exact ⟨by simp only [Smas]; exact ⟨g1, g2, g3, trivial⟩, by simp⟩
theorem sta_len {bs as ms : List D} (h : StaC bs as ms) : (staT (staD bs as ms)).length ≤ 13000 := by
  have row : ∀ (ps : List (List Nat)) (s : List Nat), ps.length ≤ 30 → s.length ≤ 60 → (∀ p ∈ ps, p.length ≤ 60) → (TL.joinL [32] (s :: ps)).length ≤ 2000 := fun ps s h1 h2 h3 => by
    have e1 := sums_le (m := 60) (ps := s :: ps) fun p hp => by
      rcases List.mem_cons.mp hp with rfl | hp
      · exact h2
      · exact h3 p hp
    have e2 := joinL_len [32] (s :: ps)
    simp only [List.length_cons, List.length_nil] at e1 e2
    omega
  have r1 := row (bs.map bokT) sBook (by rw [List.length_map]; exact h.lb) (by decide) fun p hp => by obtain ⟨x, hx, rfl⟩ := List.mem_map.mp hp; exact bokT_len (h.b x hx).ok
  have r2 := row (as.map anT) sAnss (by rw [List.length_map]; exact h.la) (by decide) fun p hp => by obtain ⟨x, hx, rfl⟩ := List.mem_map.mp hp; exact anT_len (h.a x hx).ok
  have r3 := row (ms.map strOf) sMems (by rw [List.length_map]; exact h.lm) (by decide) fun p hp => by obtain ⟨x, hx, rfl⟩ := List.mem_map.mp hp; exact memT_len (h.m x hx)
  show (TL.joinL [10] [_, _, _]).length ≤ 13000
  have e := joinL_len [10] [TL.joinL [32] (sBook :: bs.map bokT), TL.joinL [32] (sAnss :: as.map anT), TL.joinL [32] (sMems :: ms.map strOf)]
  simp only [List.map_cons, List.map_nil, List.sum_cons, List.sum_nil, List.length_cons, List.length_nil] at e
  omega
section
variable {S : Sto} {n : Nat} {d : D} {t : Tyn}
theorem ne_same {l : List Nat} {S : Sto} : dNe (.str l) (.str l) S = .ok (.bl false) S := by rw [ne_s]; simp
theorem eq_same {l : List Nat} {S : Sto} : dEq (.str l) (.str l) S = .ok (.bl true) S := by rw [eq_s]; simp
theorem v_law_right {p : Po} {m : Nat} {k : D} {rows bs as ms : List D} (hp : S.get p = some (.lst m rows)) (hk : AskC k) (hr : ∀ r ∈ rows, RowC r) (hc : chainB rows = true) (hl : rows.length ≤ 60) (hs : StaC bs as ms) :
    Fv (cal (n + 9)) 311 [k, .obj p, staD bs as ms] S (.bl true) := by
  refine fv_body (c := cal (n + 8)) (fun _ _ => rfl) ?_
  obtain ⟨kb, kc⟩ := ask_back hk
  obtain ⟨kg, kd, kr⟩ := ask_gd hk.ok
  have kl := askT_len' hk.ok
  -- the ask
  refine ps_seq (ps_set (pv_call (pa_c (pv_var rfl) pa_n) (v_law_ask_text (n := n + 7) hk.ok)) fun _ => rfl) ?_
  refine ps_ifn (k := false) (pt_or (x := false) (y := false) (pt_of (pv_bin (pv_call (pa_c (pv_var rfl) pa_n) (v_show_ask' (n := n + 2) hk.ok)) (pv_var rfl) fun _ => ne_same)) fun _ => pt_of (pv_bin (pv_b (pa_c (pv_call (pa_c (pv_var rfl) pa_n) (v_read_ask (n := n + 1) (by omega) (fun a ha => (kc a ha).1) kb)) pa_n) fun _ => repr_gd kg (by omega) (by unfold big; omega))
    (pv_b (pa_c (pv_var rfl) pa_n) fun _ => repr_gd kg (by omega) (by unfold big; omega)) fun _ => ne_same)) (fun h => by cases h) fun _ => ?_
  -- the row
  have hok : ∀ r ∈ rows, RowOk r := fun r h => (hr r h).ok
  have lb := lines_back hr
  have tl : (TL.joinL [10] (rows.map rowT)).length ≤ 13000 := by
    have e1 := sums_le (m := 100) (ps := rows.map rowT) fun p hp => by obtain ⟨x, hx, rfl⟩ := List.mem_map.mp hp; exact rowT_len (hok x hx)
    have e2 := joinL_len [10] (rows.map rowT)
    rw [List.length_map] at e1 e2
    have e3 : [10].length = 1 := rfl
    rw [e3] at e2
    omega
  have tc : ∀ a ∈ TL.joinL [10] (rows.map rowT), a < 128 := fun a ha => by
    rcases joinL_mem ha with z | ⟨q, hq, hz⟩
    · simp at z; omega
    · obtain ⟨x, hx, rfl⟩ := List.mem_map.mp hq
      exact ((row_back (hr x hx)).2 a hz).1
  have back : (linesR (TL.joinL [10] (rows.map rowT))).map dorR = rows := by
    rw [lb, List.map_map, map_id_of (f := dorR ∘ rowT) fun x hx => (row_back (hr x hx)).1]
  have rd : ∀ S2, Le S S2 → Fl (cal (n + 8)) 168 [.str (TL.joinL [10] (rows.map rowT))] S2 rows := fun S2 l2 => by
    have := v_read_row (S := S2) (n := n) tl tc (fun q hq => by
      rw [lb] at hq
      obtain ⟨x, hx, rfl⟩ := List.mem_map.mp hq
      rw [(row_back (hr x hx)).1]
      exact hok x hx) (fun i a b ha hb => by
      rw [lb, List.getElem?_map] at ha hb
      obtain ⟨x, hx, rfl⟩ := Option.map_eq_some_iff.mp ha
      obtain ⟨y, hy, rfl⟩ := Option.map_eq_some_iff.mp hb
      rw [(row_back (hr x (List.mem_of_getElem? hx))).1, (row_back (hr y (List.mem_of_getElem? hy))).1]
      exact chainB_at hc hx hy)
    rw [back] at this
    exact this
  refine ps_seq (ps_set (pv_call (pa_c (pv_var rfl) pa_n) (v_law_row_text (n := n + 6) hp hok (by omega))) fun _ => rfl) ?_
  refine ps_ifn (k := false) (pt_of (pv_bin (pv_call (pa_c (pv_var rfl) pa_n) (v_show_row (n := n + 1) hp hok (by omega))) (pv_var rfl) fun _ => ne_same)) (fun h => by cases h) fun _ => ?_
  intro S1 l1
  have hp1 := l1.get hp
  have rrep : ∀ (S' : Sto) (q : Po) (j : Nat), S'.get q = some (.lst j rows) → bRepr [.obj q] S' = .ok (.str (repL rows)) S' := fun S' q j hq => by
    refine repr_l hq (fun x hx => (row_gd (hok x hx)).1) (fun x hx => by have := (row_gd (hok x hx)).2.1; omega) ?_
    have := rszs_le (xs := rows) (n := 700) fun x hx => (row_gd (hok x hx)).2.2
    unfold big; omega
  generalize hT : TL.joinL [10] (rows.map rowT) = T at rd
  have key := for_inv (c := cal (n + 8)) (z := .rng 0 2) (g := gN 4) (b := (sSeq (sSet (gN 5) (eCall 168 [] (aCons (eVar 3) aNil)))
 (sSeq (sIf (tOf (eBin dNe (eB bRepr (aCons (eVar 5) aNil)) (eB bRepr (aCons (eVar 1) aNil))))
 (sSeq (sRet (eC (.bl false)))
 sNil)
 sNil)
 (sSeq (sX (eBM isLstD mAppend (eVar 5) (aCons (eC .non) aNil)))
 sNil)))) (xs := rngL 0 2) (fun i env S' => (∃ o4 o5, env = [some k, some (.obj p), some (staD bs as ms), some (.str T), o4, o5]) ∧ Le S1 S') (fun _ => False) (fun _ _ _ _ => at_rng) (fun i hi env S' hI => ?_) (Iz.fuel (.rng 0 2) S1) 0 [some k, some (.obj p), some (staD bs as ms), some (.str T), none, none] S1 ⟨⟨_, _, rfl⟩, .refl l1.wf⟩ (by rw [rngL_len]; show 2 < 2 + 1 + 0; decide) (Nat.zero_le _)
  · rcases key with ⟨env2, S2, e2, ⟨o4, o5, rfl⟩, l2⟩ | ⟨h, _⟩
    · obtain ⟨sb, br1, br2, br3, sc⟩ := sta_back hs.ok hs.b hs.a hs.m
      obtain ⟨sg, sd, sr⟩ := sta_gd hs
      have sl := sta_len hs
      have hb3 : ∀ x ∈ bs, BokOk x := fun x h => (hs.b x h).ok
      have ha3 : ∀ x ∈ as, AnOk x := fun x h => (hs.a x h).ok
      have rst : ∀ S3, Le S S3 → Fv (cal (n + 8)) 174 [.str (staT (staD bs as ms))] S3 (staD bs as ms) := fun S3 l3 => by
        have := v_read_state (S := S3) (n := n + 2) sl sb
        rw [show ([bs.map bokT, as.map anT, ms.map strOf] : List (List (List Nat))).getD 0 [] = bs.map bokT from rfl, show ([bs.map bokT, as.map anT, ms.map strOf] : List (List (List Nat))).getD 1 [] = as.map anT from rfl, show ([bs.map bokT, as.map anT, ms.map strOf] : List (List (List Nat))).getD 2 [] = ms.map strOf from rfl, br1, br2, br3] at this
        exact this
      have fin : Ps (cal (n + 8)) [some k, some (.obj p), some (staD bs as ms), some (.str T), o4, o5] S2 (sSeq (sSet (gN 3) (eCall 307 [] (aCons (eVar 2) aNil)))
 (sSeq (sRet (eAnd (eBin dEq (eCall 159 [] (aCons (eVar 2) aNil)) (eVar 3)) (eBin dEq (eB bRepr (aCons (eCall 174 [] (aCons (eVar 3) aNil)) aNil)) (eB bRepr (aCons (eVar 2) aNil)))))
 sNil)) (.rt (.bl true)) := by
        refine ps_seq (ps_set (pv_call (pa_c (pv_var rfl) pa_n) (v_law_state_text (n := n + 6) hb3 ha3 hs.m (by have := hs.lb; omega) (by have := hs.la; omega) (by have := hs.lm; omega))) fun _ => rfl) (ps_fin ?_)
        refine (pv_and (x := true) (y := true) (pv_bin (pv_call (pa_c (pv_var rfl) pa_n) (v_show_state (n := n + 1) hs.ok hb3 ha3 hs.m (by have := hs.lb; omega) (by have := hs.la; omega) (by have := hs.lm; omega) (sta_sma hs))) (pv_var rfl) fun _ => eq_same) fun _ => pv_bin (pv_b (pa_c (pv_call (pa_c (pv_var rfl) pa_n) (rst S2 (l1.trans l2))) pa_n) fun _ => repr_gd sg (by omega) (by unfold big; omega)) (pv_b (pa_c (pv_var rfl) pa_n) fun _ => repr_gd sg (by omega) (by unfold big; omega)) fun _ => eq_same).to rfl
      obtain ⟨S3, e3, l3⟩ := fin S2 (.refl l2.wf)
      refine ⟨S3, ?_, l2.trans l3⟩
      have rf : iRange (aCons (eC (.int 2)) aNil) (cal (n + 8)) [some k, some (.obj p), some (staD bs as ms), some (.str T), none, none] S1 = .ok (.rng 0 2) S1 := rfl
      exact (sSeq_run ((run_for rf).trans e2)).trans e3
    · exact h.elim
  · obtain ⟨⟨o4, o5, rfl⟩, l2⟩ := hI
    rw [rngL_len] at hi
    refine ⟨[some k, some (.obj p), some (staD bs as ms), some (.str T), some (.int (i : Nat)), o5], S', by rw [rngL_get (by rw [rngL_len]; exact hi)]; show some (_, S') = _; rw [Int.zero_add]; rfl, .inl ?_⟩
    obtain ⟨p5, S3, e3, l3, g3, n3⟩ := (pl_call (c := cal (n + 8)) (env := [some k, some (.obj p), some (staD bs as ms), some (.str T), some (.int (i : Nat)), o5]) (a := aCons (eVar 3) aNil) (dfl := []) (pa_c (pv_var rfl) pa_n) (rd S' (l1.trans l2))) S' (.refl l2.wf)
    have tst : Pt (cal (n + 8)) [some k, some (.obj p), some (staD bs as ms), some (.str T), some (.int (i : Nat)), some (.obj p5)] S3 (tOf (eBin dNe (eB bRepr (aCons (eVar 5) aNil)) (eB bRepr (aCons (eVar 1) aNil)))) false :=
      pt_of (pv_bin (pv_bS (pa_c (pv_var rfl) pa_n) fun S4 l4 => rrep S4 p5 0 (l4.get g3)) (pv_bS (pa_c (pv_var rfl) pa_n) fun S4 l4 => rrep S4 p m ((l2.trans (l3.trans l4)).get hp1)) fun _ => ne_same)
    obtain ⟨S4, e4, l4⟩ := tst S3 (.refl l3.wf)
    have r4 : sIf (tOf (eBin dNe (eB bRepr (aCons (eVar 5) aNil)) (eB bRepr (aCons (eVar 1) aNil)))) (sSeq (sRet (eC (.bl false))) sNil) sNil (cal (n + 8)) [some k, some (.obj p), some (staD bs as ms), some (.str T), some (.int (i : Nat)), some (.obj p5)] S3 = .nx [some k, some (.obj p), some (staD bs as ms), some (.str T), some (.int (i : Nat)), some (.obj p5)] S4 := by
      unfold sIf; rw [e4]; rfl
    have r5 := run_append (c := cal (n + 8)) (env := [some k, some (.obj p), some (staD bs as ms), some (.str T), some (.int (i : Nat)), some (.obj p5)]) (i := 5) (e := eC .non) (d := .non) rfl (l4.get g3) (by unfold big; omega) rfl (.refl l4.wf)
    refine ⟨_, _, .inl ((sSeq_run (run_setl e3)).trans ((sSeq_run r4).trans ((sSeq_run r5).trans rfl))), ⟨_, _, rfl⟩, ?_⟩
    exact l2.trans ((l3.trans l4).put (l4.get g3) n3)
end
end Ev
set_option Elab.async false
set_option linter.all false
set_option maxRecDepth 100000
set_option maxHeartbeats 0
namespace Ev
open PySem
local macro_rules
  | `(tactic| nofun) => `(tactic| first
    | exact pv_var rfl
    | exact pv_c
    | exact pa_n
    | exact pt_yes
    | exact po_no
    | assumption
    | (with_reducible apply po_part
       nofun)
    | (with_reducible apply pa_c
       · nofun
       · nofun)
    | (with_reducible apply pt_of
       nofun)
    | (with_reducible apply pt_not
       nofun)
    | (with_reducible apply pt_or_t
       with_reducible apply Pt.to
       · nofun
       · first | rfl | (simp [*]; done))
    | (with_reducible apply pt_or
       · nofun
       · (intro _
          nofun))
    | (with_reducible apply pt_and_f
       with_reducible apply Pt.to
       · nofun
       · first | rfl | (simp [*]; done))
    | (with_reducible apply pt_and
       · nofun
       · (intro _
          nofun))
    | (with_reducible apply pv_and_f
       with_reducible apply Pv.to
       · nofun
       · first | rfl | (simp [*]; done))
    | (with_reducible apply pv_and
       · nofun
       · (intro _
          nofun))
    | (with_reducible apply pv_or_t
       with_reducible apply Pv.to
       · nofun
       · first | rfl | (simp [*]; done))
    | (with_reducible apply pv_or
       · nofun
       · (intro _
          nofun))
    | (with_reducible apply pv_not
       nofun)
    | (with_reducible apply pv_neg
       nofun)
    | (with_reducible apply pv_is
       · nofun
       · first | exact tys_of rfl | assumption)
    | (with_reducible apply pv_tup
       · nofun
       · exact of_decide_eq_true rfl)
    | (with_reducible apply pl_lst
       · nofun
       · exact of_decide_eq_true rfl)
    | (with_reducible apply pv_call
       · nofun
       · assumption)
    | (with_reducible apply pl_call
       · nofun
       · assumption)
    | (with_reducible apply pv_callK
       · nofun
       · nofun
       · assumption)
    | (with_reducible apply pv_b
       · nofun
       · first | exact fun _ => len_t | exact fun _ => len_s (by assumption) | exact fun _ => rfl)
    | (with_reducible apply pv_bS
       · nofun
       · exact fun _ l => len_l (l.get (by assumption)))
    | (with_reducible apply pv_bin
       · nofun
       · nofun
       · first | exact fun _ => le_i | exact fun _ => lt_i | exact fun _ => gt_i | exact fun _ => ge_i | exact fun _ => eq_i | exact fun _ => ne_i | exact fun _ => eq_s | exact fun _ => ne_s | exact fun _ => in_two | exact fun _ => ix_t rfl | exact fun _ => rfl)
    | (with_reducible apply pv_binS
       · nofun
       · nofun
       · exact fun _ l => ix_l (l.get (by assumption)) rfl)
    | (with_reducible apply pv_chain
       · nofun
       · nofun
       · exact fun _ => le_i
       · (intro _
          nofun)
       · exact fun _ _ => le_i)
    | (with_reducible apply pv_bm
       · nofun
       · nofun
       · exact fun _ => rfl
       · exact fun _ => rfl)
    | (with_reducible apply pv_tupl
       nofun))

theorem Lk.le {S S1 : Sto} {d : D} (h : Lk S d) (l : Le S S1) : Lk S1 d := let ⟨t, e⟩ := h; ⟨t, e.le l⟩
theorem is_not {d : D} {S : Sto} (h : d ≠ .non) : dIs d .non S = .ok (.bl false) S := by
  cases d <;> first | rfl | exact absurd rfl h
section
variable {c : Cal} {env : Slots} {S : Sto}
theorem pe_calll {j k : Nat} {fs : List (Nat × D)} {a : Ev} {xs : List D} (ha : Pl c env S a xs) (hf : ∀ p S1, Le S S1 → S1.get p = some (.lst 0 xs) → Fe c j [.obj p] S1 k fs) : Pe c env S (eCall j [] (aCons a aNil)) k fs := fun S1 l => by
  obtain ⟨p, S2, e2, l2, g2, n2⟩ := ha S1 l
  obtain ⟨S3, e3, l3⟩ := hf p S2 (l.trans l2) g2 S2 (.refl l2.wf)
  exact ⟨S3, by unfold eCall aCons; rw [e2]; exact e3, l2.trans l3⟩
theorem pl_calll {j : Nat} {a : Ev} {xs ys : List D} (ha : Pl c env S a xs) (hf : ∀ p S1, Le S S1 → S1.get p = some (.lst 0 xs) → Fl c j [.obj p] S1 ys) : Pl c env S (eCall j [] (aCons a aNil)) ys := fun S1 l => by
  obtain ⟨p, S2, e2, l2, g2, n2⟩ := ha S1 l
  obtain ⟨q, S3, e3, l3, g3, n3⟩ := hf p S2 (l.trans l2) g2 S2 (.refl l2.wf)
  exact ⟨q, S3, by unfold eCall aCons; rw [e2]; exact e3, l2.trans l3, g3, Nat.le_trans l2.nx n3⟩
theorem pl_vvl {j : Nat} {a b e : Ev} {x y : D} {xs ys : List D} (ha : Pv c env S a x) (hb : Pv c env S b y) (he : Pl c env S e xs) (hf : ∀ p S1, Le S S1 → S1.get p = some (.lst 0 xs) → Fl c j [x, y, .obj p] S1 ys) : Pl c env S (eCall j [] (aCons a (aCons b (aCons e aNil)))) ys := fun S1 l => by
  obtain ⟨S2, e2, l2⟩ := ha S1 l
  obtain ⟨S3, e3, l3⟩ := hb S2 (l.trans l2)
  obtain ⟨p, S4, e4, l4, g4, n4⟩ := he S3 (l.trans (l2.trans l3))
  obtain ⟨q, S5, e5, l5, g5, n5⟩ := hf p S4 (l.trans (l2.trans (l3.trans l4))) g4 S4 (.refl l4.wf)
  refine ⟨q, S5, ?_, l2.trans (l3.trans (l4.trans l5)), g5, Nat.le_trans l2.nx (Nat.le_trans l3.nx (Nat.le_trans l4.nx n5))⟩
  have h3 : aCons e aNil c env S3 = .ok [.obj p] S4 := by unfold aCons; rw [e4]; rfl
  have h2 : aCons b (aCons e aNil) c env S2 = .ok [y, .obj p] S4 := by
    show Rs.bind (b c env S2) _ = _
    rw [e3]
    show Rs.bind (aCons e aNil c env S3) _ = _
    rw [h3]; rfl
  have h1 : aCons a (aCons b (aCons e aNil)) c env S1 = .ok [x, y, .obj p] S4 := by
    show Rs.bind (a c env S1) _ = _
    rw [e2]
    show Rs.bind (aCons b (aCons e aNil) c env S2) _ = _
    rw [h2]; rfl
  unfold eCall
  rw [h1]
  exact e5
theorem pv_vlv {j : Nat} {a b e : Ev} {x z d : D} {xs : List D} (ha : Pv c env S a x) (hb : Pl c env S b xs) (he : Pv c env S e z) (hf : ∀ p S1, Le S S1 → S1.get p = some (.lst 0 xs) → Fv c j [x, .obj p, z] S1 d) : Pv c env S (eCall j [] (aCons a (aCons b (aCons e aNil)))) d := fun S1 l => by
  obtain ⟨S2, e2, l2⟩ := ha S1 l
  obtain ⟨p, S3, e3, l3, g3, n3⟩ := hb S2 (l.trans l2)
  obtain ⟨S4, e4, l4⟩ := he S3 (l.trans (l2.trans l3))
  obtain ⟨S5, e5, l5⟩ := hf p S4 (l.trans (l2.trans (l3.trans l4))) (l4.get g3) S4 (.refl l4.wf)
  refine ⟨S5, ?_, l2.trans (l3.trans (l4.trans l5))⟩
  have h3 : aCons e aNil c env S3 = .ok [z] S4 := by unfold aCons; rw [e4]; rfl
  have h2 : aCons b (aCons e aNil) c env S2 = .ok [.obj p, z] S4 := by
    show Rs.bind (b c env S2) _ = _
    rw [e3]
    show Rs.bind (aCons e aNil c env S3) _ = _
    rw [h3]; rfl
  have h1 : aCons a (aCons b (aCons e aNil)) c env S1 = .ok [x, .obj p, z] S4 := by
    show Rs.bind (a c env S1) _ = _
    rw [e2]
    show Rs.bind (aCons b (aCons e aNil) c env S2) _ = _
    rw [h2]; rfl
  unfold eCall
  rw [h1]
  exact e5
theorem pv_isE {t : List (Nat × Bool)} {a : Ev} {p : Po} {k : Nat} {b : Bool} (ha : Pv c env S a (.obj p)) (hp : S.get p = some (.exn k [])) (ht : tabL t k = some b) : Pv c env S (eIsE t a) (.bl b) := fun S1 l => by
  obtain ⟨S2, e2, l2⟩ := ha S1 l
  refine ⟨S2, ?_, l2⟩
  unfold eIsE
  rw [e2]
  show isExc t (.obj p) S2 = _
  unfold isExc
  dsimp only
  rw [(l.trans l2).get hp]
  dsimp only
  rw [ht]
theorem pl_mul {a b : Ev} {xs : List D} {k : Nat} (ha : Pl c env S a xs) (hb : Pv c env S b (.int (k : Nat))) (hk : k ≤ 1000) (hx : xs.length ≤ 1000) : Pl c env S (eBin dMul a b) (List.replicate k xs).flatten := fun S1 l => by
  obtain ⟨p, S2, e2, l2, g2, n2⟩ := ha S1 l
  obtain ⟨S3, e3, l3⟩ := hb S2 (l.trans l2)
  refine ⟨S3.nx, S3.add (.lst 0 (List.replicate k xs).flatten), ?_, l2.trans (l3.trans (le_add l3.wf)), add_get, Nat.le_trans l2.nx l3.nx⟩
  unfold eBin
  rw [e2]
  show Rs.bind (b c env S2) _ = _
  rw [e3]
  show (match S3.get p with | some (.lst _ a) => (match small64 (k : Int) && Nat.ble (k : Int).natAbs big && Nat.ble (a.length * (k : Int).toNat) big with | true => mkO (.lst 0 (List.replicate (k : Int).toNat a).flatten) S3 | false => .no) | _ => .no) = _
  rw [l3.get g2]
  show (match small64 (k : Int) && Nat.ble (k : Int).natAbs big && Nat.ble (xs.length * (k : Int).toNat) big with | true => mkO (.lst 0 (List.replicate (k : Int).toNat xs).flatten) S3 | false => .no) = _
  have hm : xs.length * k ≤ 1000 * 1000 := Nat.mul_le_mul hx hk
  have h1 : small64 (k : Int) = true := Nat.blt_eq.mpr (by omega)
  have h2 : Nat.ble (k : Int).natAbs big = true := Nat.ble_eq_true_of_le (by unfold big; omega)
  have h3 : Nat.ble (xs.length * (k : Int).toNat) big = true := Nat.ble_eq_true_of_le (by rw [Int.toNat_natCast]; unfold big; omega)
  rw [h1, h2, h3, Int.toNat_natCast]
  exact mkO_eq l3.wf
/-- the script and one cell more -/
theorem pl_catL {a b : Ev} {p : Po} {xs ys : List D} (ha : Pv c env S a (.obj p)) (hp : ∀ S1, Le S S1 → seqD (.obj p) S1 = some xs) (hb : Pl c env S b ys) (hl : xs.length + ys.length ≤ big) : Pl c env S (eBin dCatL a b) (xs ++ ys) := fun S1 l => by
  obtain ⟨S2, e2, l2⟩ := ha S1 l
  obtain ⟨q, S3, e3, l3, g3, n3⟩ := hb S2 (l.trans l2)
  refine ⟨S3.nx, S3.add (.lst 0 (xs ++ ys)), ?_, l2.trans (l3.trans (le_add l3.wf)), add_get, Nat.le_trans l2.nx l3.nx⟩
  unfold eBin
  rw [e2]
  show Rs.bind (b c env S2) _ = _
  rw [e3]
  show (match seqD (.obj p) S3 with | some a => (match seqD (.obj q) S3 with | some b => (match Nat.ble (a.length + b.length) big with | true => mkO (.lst 0 (a ++ b)) S3 | false => .no) | none => .no) | none => .no) = _
  rw [hp S3 (l.trans (l2.trans l3)), seqD_lst g3]
  show (match Nat.ble (xs.length + ys.length) big with | true => mkO (.lst 0 (xs ++ ys)) S3 | false => .no) = _
  rw [Nat.ble_eq_true_of_le hl]
  exact mkO_eq l3.wf
theorem run_l3 {a b e : Ev} {S1 S2 S3 : Sto} {x y z : D} (ha : a c env S = .ok x S1) (hb : b c env S1 = .ok y S2) (he : e c env S2 = .ok z S3) (w : Wf S3) : eLst (aCons a (aCons b (aCons e aNil))) c env S = .ok (.obj S3.nx) (S3.add (.lst 0 [x, y, z])) := by
  have h3 : aCons e aNil c env S2 = .ok [z] S3 := by unfold aCons; rw [he]; rfl
  have h2 : aCons b (aCons e aNil) c env S1 = .ok [y, z] S3 := by
    show Rs.bind (b c env S1) _ = _
    rw [hb]
    show Rs.bind (aCons e aNil c env S2) _ = _
    rw [h3]; rfl
  have h1 : aCons a (aCons b (aCons e aNil)) c env S = .ok [x, y, z] S3 := by
    show Rs.bind (a c env S) _ = _
    rw [ha]
    show Rs.bind (aCons b (aCons e aNil) c env S1) _ = _
    rw [h2]; rfl
  unfold eLst
  rw [h1]
  exact mkO_eq w
end
/-- what is refused as ask and as state -/
structure Bad (S : Sto) (d : D) : Prop where
  lk : Lk S d
  sma : ∀ q xs, d = .tup q xs → Sma d
  ne : d ≠ .non
  ask : askB d = false
  sta : staB d = false
theorem Bad.le {S S1 : Sto} {d : D} (h : Bad S d) (l : Le S S1) : Bad S1 d := ⟨h.lk.le l, h.sma, h.ne, h.ask, h.sta⟩
theorem toDt_bls {S : Sto} {p : Po} {k n : Nat} {bs : List Bool} (h : S.get p = some (.lst k (bs.map .bl))) : toDt S (n + 1) (.obj p) = some (.lst (bs.map .bl)) := by
  unfold toDt
  rw [h]
  dsimp only
  have : ∀ bs : List Bool, mapO (toDt S n) (bs.map D.bl) = some (bs.map Dt.bl) := fun bs => by
    induction bs with
    | nil => rfl
    | cons b bs ih =>
      rw [List.map_cons]
      unfold mapO
      rw [ih]
      cases n <;> rfl
  rw [this]
  rfl
section
variable {S : Sto} {n : Nat} {d : D} {t : Tyn}
def expB (j : Nat) : List Bool := [decide (j ≠ 1), decide (j = 1)]
theorem v_law_refused (h : Bad S d) : Fv (cal (n + 8)) 310 [d] S (.bl true) := by
  refine fv_body (c := cal (n + 7)) (fun _ _ => rfl) ?_
  intro S1 l1
  have l2 := le_add (o := .lst 0 []) l1.wf
  have a2 : Acc S1 S1.nx [] (S1.add (.lst 0 [])) := ⟨l2, Nat.le_refl _, add_get⟩
  have r1 := run_new (c := cal (n + 7)) (env := [some d, none, none, none, none]) (i := 1) l1.wf
  generalize hS2 : S1.add (.lst 0 []) = S2 at l2 a2 r1
  generalize hq : S1.nx = q at a2 r1
  let I : Nat → Slots → Sto → Prop := fun i env S' => ∃ o2 o3 o4, ∃ Rp : List Po, env = [some d, some (.obj q), o2, o3, o4] ∧ Acc S1 q (Rp.map .obj) S' ∧ Rp.length = i ∧ ∀ j (hj : j < Rp.length), S'.get Rp[j] = some (.lst 0 ((expB j).map .bl)) ∧ Rp[j] ≠ q
  have key := for_inv (c := cal (n + 7)) (z := .rng 0 3) (g := gN 2) (b := (sSeq (sSet (gN 3) (eC .non))
 (sSeq (sKeep mt_HeadError 4 3 (sSeq (sIf (tOf (eBin dEq (eVar 2) (eC (.int (0)))))
 (sSeq (sX (eCall 156 [] (aCons (eVar 0) aNil)))
 sNil)
 (sSeq (sIf (tOf (eBin dEq (eVar 2) (eC (.int (1)))))
 (sSeq (sX (eCall 159 [] (aCons (eVar 0) aNil)))
 sNil)
 (sSeq (sX (eCall 157 [] (aCons (eLst (aCons (eTup (aCons (eC (.int (0))) (aCons (eC (.int (0))) (aCons (eVar 0) aNil)))) aNil)) aNil)))
 sNil))
 sNil))
 sNil))
 (sSeq (sX (eBM isLstD mAppend (eVar 1) (aCons (eLst (aCons (eIsE it_NoAsk (eVar 3)) (aCons (eIsE it_NoState (eVar 3)) aNil))) aNil)))
 sNil)))) (xs := rngL 0 3) I (fun _ => False) (fun _ _ _ _ => at_rng) (fun i hi env S' hI => ?_) (Iz.fuel (.rng 0 3) S2) 0 [some d, some (.obj q), none, none, none] S2 ⟨none, none, none, [], rfl, a2, rfl, fun j hj => absurd hj (Nat.not_lt_zero j)⟩ (by rw [rngL_len]; show 3 < 3 + 1 + 0; decide) (Nat.zero_le _)
  · rcases key with ⟨env2, S3, e3, ⟨o2, o3, o4, Rp, rfl, a3, hR, hj⟩⟩ | ⟨h, _⟩
    · rw [rngL_len] at hR
      obtain ⟨p0, p1, p2, rfl⟩ : ∃ p0 p1 p2, Rp = [p0, p1, p2] := by
        match Rp, hR with
        | [p0, p1, p2], _ => exact ⟨_, _, _, rfl⟩
      · obtain ⟨c1, S4, e4, l4, g4, n4⟩ := (pl_lst (c := cal (n + 7)) (env := [some d, some (.obj q), o2, o3, o4]) (S := S3) (a := (aCons (eC (.bl true)) (aCons (eC (.bl false)) aNil))) (ds := (expB 0).map .bl) (pa_c pv_c (pa_c pv_c pa_n)) (of_decide_eq_true rfl)) S3 (.refl a3.le.wf)
        obtain ⟨c2, S5, e5, l5, g5, n5⟩ := (pl_lst (c := cal (n + 7)) (env := [some d, some (.obj q), o2, o3, o4]) (S := S3) (a := (aCons (eC (.bl false)) (aCons (eC (.bl true)) aNil))) (ds := (expB 1).map .bl) (pa_c pv_c (pa_c pv_c pa_n)) (of_decide_eq_true rfl)) S4 l4
        obtain ⟨c3, S6, e6, l6, g6, n6⟩ := (pl_lst (c := cal (n + 7)) (env := [some d, some (.obj q), o2, o3, o4]) (S := S3) (a := (aCons (eC (.bl true)) (aCons (eC (.bl false)) aNil))) (ds := (expB 2).map .bl) (pa_c pv_c (pa_c pv_c pa_n)) (of_decide_eq_true rfl)) S5 (l4.trans l5)
        have e7 := run_l3 e4 e5 e6 l6.wf
        have l7 := le_add (o := .lst 0 [.obj c1, .obj c2, .obj c3]) l6.wf
        have l37 := l4.trans (l5.trans (l6.trans l7))
        have gq := l37.get a3.at_
        have gn : (S6.add (.lst 0 [.obj c1, .obj c2, .obj c3])).get S6.nx = some (.lst 0 [.obj c1, .obj c2, .obj c3]) := add_get
        generalize S6.add (.lst 0 [.obj c1, .obj c2, .obj c3]) = S7 at e7 l7 l37 gq gn
        have d1 : toDt S7 60 (.obj q) = some (.lst [.lst ((expB 0).map .bl), .lst ((expB 1).map .bl), .lst ((expB 2).map .bl)]) := by
          unfold toDt
          dsimp only
          rw [gq]
          show Option.map Dt.lst (mapO (toDt S7 59) [.obj p0, .obj p1, .obj p2]) = _
          unfold mapO
          rw [toDt_bls (n := 58) (p := p0) (l37.get (hj 0 (by simp)).1)]
          unfold mapO
          rw [toDt_bls (n := 58) (p := p1) (l37.get (hj 1 (by simp)).1)]
          unfold mapO
          rw [toDt_bls (n := 58) (p := p2) (l37.get (hj 2 (by simp)).1)]
          rfl
        have d2 : toDt S7 60 (.obj S6.nx) = some (.lst [.lst ((expB 0).map .bl), .lst ((expB 1).map .bl), .lst ((expB 2).map .bl)]) := by
          unfold toDt
          dsimp only
          rw [gn]
          show Option.map Dt.lst (mapO (toDt S7 59) [.obj c1, .obj c2, .obj c3]) = _
          unfold mapO
          rw [toDt_bls (n := 58) ((l5.trans (l6.trans l7)).get g4)]
          unfold mapO
          rw [toDt_bls (n := 58) ((l6.trans l7).get g5)]
          unfold mapO
          rw [toDt_bls (n := 58) (l7.get g6)]
          rfl
        refine ⟨S7, ?_, a3.le.trans l37⟩
        refine (sSeq_run r1).trans ((sSeq_run ((run_for (z := .rng 0 3) (S1 := S2) rfl).trans e3)).trans ?_)
        show (match sRet (eBin dEq (eVar 1) (eLst _)) (cal (n + 7)) [some d, some (.obj q), o2, o3, o4] S3 with | .nx env1 S1 => sNil (cal (n + 7)) env1 S1 | r => r) = _
        have e8 : sRet (eBin dEq (eVar 1) (eLst (aCons (eLst (aCons (eC (.bl true)) (aCons (eC (.bl false)) aNil))) (aCons (eLst (aCons (eC (.bl false)) (aCons (eC (.bl true)) aNil))) (aCons (eLst (aCons (eC (.bl true)) (aCons (eC (.bl false)) aNil))) aNil))))) (cal (n + 7)) [some d, some (.obj q), o2, o3, o4] S3 = .rt (.bl true) S7 := by
          unfold sRet eBin
          show Rs.bindS (Rs.bind (eLst _ (cal (n + 7)) [some d, some (.obj q), o2, o3, o4] S3) _) _ _ = _
          rw [e7]
          show Rs.bindS (dEq (.obj q) (.obj S6.nx) S7) _ _ = _
          unfold dEq deq
          dsimp only
          rw [d1, d2]
          rfl
        rw [e8]
        rfl
    · exact h.elim
  · obtain ⟨o2, o3, o4, Rp, rfl, a3, hR, hj⟩ := hI
    rw [rngL_len] at hi
    refine ⟨[some d, some (.obj q), some (.int (i : Nat)), o3, o4], S', by rw [rngL_get (by rw [rngL_len]; exact hi)]; show some (_, S') = _; rw [Int.zero_add]; rfl, .inl ?_⟩
    have lS := l1.trans a3.le
    have bd := h.le lS
    -- which exception
    have hex : Ps (cal (n + 7)) [some d, some (.obj q), some (.int (i : Nat)), some .non, o4] S' (sSeq (sIf (tOf (eBin dEq (eVar 2) (eC (.int (0)))))
 (sSeq (sX (eCall 156 [] (aCons (eVar 0) aNil)))
 sNil)
 (sSeq (sIf (tOf (eBin dEq (eVar 2) (eC (.int (1)))))
 (sSeq (sX (eCall 159 [] (aCons (eVar 0) aNil)))
 sNil)
 (sSeq (sX (eCall 157 [] (aCons (eLst (aCons (eTup (aCons (eC (.int (0))) (aCons (eC (.int (0))) (aCons (eVar 0) aNil)))) aNil)) aNil)))
 sNil))
 sNil))
 sNil) (.ex (if i = 1 then 2 else 6) [] [some d, some (.obj q), some (.int (i : Nat)), some .non, o4]) := by
      match i, hi with
      | 0, _ => exact ps_ex (ps_if (pt_of (pv_bin (pv_var rfl) pv_c fun _ => eq_i)) (fun _ => ps_ex (ps_xe (pe_call (pa_c (pv_var rfl) pa_n) (e_show_ask (n := n + 1) bd.lk bd.sma bd.ne (fun _ => is_not bd.ne) bd.ask)))) fun h => by cases h)
      | 1, _ => exact ps_ex (ps_if (pt_of (pv_bin (pv_var rfl) pv_c fun _ => eq_i)) (fun h => by cases h) fun _ => ps_ex (ps_if (pt_of (pv_bin (pv_var rfl) pv_c fun _ => eq_i)) (fun _ => ps_ex (ps_xe (pe_call (pa_c (pv_var rfl) pa_n) (e_show_state (n := n) bd.lk bd.sma bd.sta)))) fun h => by cases h))
      | 2, _ => exact ps_ex (ps_if (pt_of (pv_bin (pv_var rfl) pv_c fun _ => eq_i)) (fun h => by cases h) fun _ => ps_ex (ps_if (pt_of (pv_bin (pv_var rfl) pv_c fun _ => eq_i)) (fun h => by cases h) fun _ => ps_ex (ps_xe (pe_calll (pl_lst (pa_c (pv_tup (pa_c pv_c (pa_c pv_c (pa_c (pv_var rfl) pa_n))) (of_decide_eq_true rfl)) pa_n) (of_decide_eq_true rfl))
          fun p S9 l9 g9 => e_show_row (n := n) g9 (bd.lk.le l9) bd.sma bd.ne (fun _ => is_not bd.ne) bd.ask rfl rfl (by decide) (by decide)))))
    obtain ⟨S4, e4, l4⟩ := hex S' (.refl a3.le.wf)
    have l5 := le_add (o := .exn (if i = 1 then 2 else 6) []) l4.wf
    have r2 : sKeep mt_HeadError 4 3 (sSeq (sIf (tOf (eBin dEq (eVar 2) (eC (.int (0)))))
 (sSeq (sX (eCall 156 [] (aCons (eVar 0) aNil)))
 sNil)
 (sSeq (sIf (tOf (eBin dEq (eVar 2) (eC (.int (1)))))
 (sSeq (sX (eCall 159 [] (aCons (eVar 0) aNil)))
 sNil)
 (sSeq (sX (eCall 157 [] (aCons (eLst (aCons (eTup (aCons (eC (.int (0))) (aCons (eC (.int (0))) (aCons (eVar 0) aNil)))) aNil)) aNil)))
 sNil))
 sNil))
 sNil) (cal (n + 7)) [some d, some (.obj q), some (.int (i : Nat)), some .non, o4] S' = .nx [some d, some (.obj q), some (.int (i : Nat)), some (.obj S4.nx), none] (S4.add (.exn (if i = 1 then 2 else 6) [])) := by
      unfold sKeep
      rw [e4]
      show (match tabL mt_HeadError (if i = 1 then 2 else 6) with | some true => (match S4.get S4.nx with | none => _ | some _ => Rt.no) | some false => _ | none => Rt.no) = _
      have ht : tabL mt_HeadError (if i = 1 then 2 else 6) = some true := by by_cases hi1 : i = 1 <;> simp [hi1] <;> rfl
      rw [ht]
      show (match S4.get S4.nx with | none => _ | some _ => Rt.no) = _
      rw [l4.wf.nx_none]
      rfl
    have gx : (S4.add (.exn (if i = 1 then 2 else 6) [])).get S4.nx = some (.exn (if i = 1 then 2 else 6) []) := add_get
    have a5 := a3.mono (l4.trans l5)
    generalize hS5 : S4.add (.exn (if i = 1 then 2 else 6) []) = S5 at l5 r2 gx a5
    generalize S4.nx = pe at r2 gx
    have hb1 : tabL it_NoAsk (if i = 1 then 2 else 6) = some (decide (i ≠ 1)) := by by_cases hi1 : i = 1 <;> simp [hi1] <;> rfl
    have hb2 : tabL it_NoState (if i = 1 then 2 else 6) = some (decide (i = 1)) := by by_cases hi1 : i = 1 <;> simp [hi1] <;> rfl
    obtain ⟨pn, S6, e6, l6, g6, n6⟩ := (pl_lst (c := cal (n + 7)) (env := [some d, some (.obj q), some (.int (i : Nat)), some (.obj pe), none]) (S := S5) (ds := (expB i).map .bl) (pa_c (pv_isE (t := it_NoAsk) (a := eVar 3) (pv_var rfl) gx hb1) (pa_c (pv_isE (t := it_NoState) (a := eVar 3) (pv_var rfl) gx hb2) pa_n)) (of_decide_eq_true rfl)) S5 (.refl l5.wf)
    have a6 := a5.mono l6
    have r3 := run_append (c := cal (n + 7)) (env := [some d, some (.obj q), some (.int (i : Nat)), some (.obj pe), none]) (i := 1) rfl a5.at_ (by rw [List.length_map]; unfold big; omega) e6 l6
    have nq : pn ≠ q := fun e => by
      have := l5.wf _ _ a5.at_
      rw [← e] at this
      omega
    refine ⟨_, _, .inl ((sSeq_run (show sSet (gN 3) (eC .non) (cal (n + 7)) [some d, some (.obj q), some (.int (i : Nat)), o3, o4] S' = .nx [some d, some (.obj q), some (.int (i : Nat)), some .non, o4] S' from rfl)).trans ((sSeq_run r2).trans ((sSeq_run r3).trans rfl))), _, _, _, Rp ++ [pn], rfl, ?_, by simp [hR], fun j hj2 => ?_⟩
    · have e : Rp.map D.obj ++ [.obj pn] = (Rp ++ [pn]).map D.obj := by simp
      rw [e]
      exact a6.push
    · by_cases hjl : j < Rp.length
      · rw [List.getElem_append_left hjl]
        obtain ⟨h1, h2⟩ := hj j hjl
        exact ⟨by rw [Sto.put_ne h2]; exact (l4.trans (l5.trans l6)).get h1, h2⟩
      · have : j = Rp.length := by simp at hj2; omega
        subst this
        rw [List.getElem_append_right (Nat.le_refl _)]
        simp only [Nat.sub_self, List.getElem_cons_zero]
        exact ⟨by rw [Sto.put_ne nq, hR]; exact g6, nq⟩
end
end Ev
set_option Elab.async false
set_option linter.all false
set_option maxRecDepth 100000
set_option maxHeartbeats 0
namespace Ev
open PySem
local macro_rules
  | `(tactic| nofun) => `(tactic| first
    | exact pv_var rfl
    | exact pv_c
    | exact pa_n
    | exact pt_yes
    | exact po_no
    | assumption
    | (with_reducible apply po_part
       nofun)
    | (with_reducible apply pa_c
       · nofun
       · nofun)
    | (with_reducible apply pt_of
       nofun)
    | (with_reducible apply pt_not
       nofun)
    | (with_reducible apply pt_or_t
       with_reducible apply Pt.to
       · nofun
       · first | rfl | (simp [*]; done))
    | (with_reducible apply pt_or
       · nofun
       · (intro _
          nofun))
    | (with_reducible apply pt_and_f
       with_reducible apply Pt.to
       · nofun
       · first | rfl | (simp [*]; done))
    | (with_reducible apply pt_and
       · nofun
       · (intro _
          nofun))
    | (with_reducible apply pv_and_f
       with_reducible apply Pv.to
       · nofun
       · first | rfl | (simp [*]; done))
    | (with_reducible apply pv_and
       · nofun
       · (intro _
          nofun))
    | (with_reducible apply pv_or_t
       with_reducible apply Pv.to
       · nofun
       · first | rfl | (simp [*]; done))
    | (with_reducible apply pv_or
       · nofun
       · (intro _
          nofun))
    | (with_reducible apply pv_not
       nofun)
    | (with_reducible apply pv_neg
       nofun)
    | (with_reducible apply pv_is
       · nofun
       · first | exact tys_of rfl | assumption)
    | (with_reducible apply pv_tup
       · nofun
       · exact of_decide_eq_true rfl)
    | (with_reducible apply pl_lst
       · nofun
       · exact of_decide_eq_true rfl)
    | (with_reducible apply pv_call
       · nofun
       · assumption)
    | (with_reducible apply pl_call
       · nofun
       · assumption)
    | (with_reducible apply pv_callK
       · nofun
       · nofun
       · assumption)
    | (with_reducible apply pv_b
       · nofun
       · first | exact fun _ => len_t | exact fun _ => len_s (by assumption) | exact fun _ => rfl)
    | (with_reducible apply pv_bS
       · nofun
       · exact fun _ l => len_l (l.get (by assumption)))
    | (with_reducible apply pv_bin
       · nofun
       · nofun
       · first | exact fun _ => le_i | exact fun _ => lt_i | exact fun _ => gt_i | exact fun _ => ge_i | exact fun _ => eq_i | exact fun _ => ne_i | exact fun _ => eq_s | exact fun _ => ne_s | exact fun _ => in_two | exact fun _ => ix_t rfl | exact fun _ => rfl)
    | (with_reducible apply pv_binS
       · nofun
       · nofun
       · exact fun _ l => ix_l (l.get (by assumption)) rfl)
    | (with_reducible apply pv_chain
       · nofun
       · nofun
       · exact fun _ => le_i
       · (intro _
          nofun)
       · exact fun _ _ => le_i)
    | (with_reducible apply pv_bm
       · nofun
       · nofun
       · exact fun _ => rfl
       · exact fun _ => rfl)
    | (with_reducible apply pv_tupl
       nofun))

/-! ### all signs -/
def nmS (i : Nat) : List Nat := (List.replicate (1 + i % 8) [97 + i]).flatten
def askS (i : Nat) : D := .tup true [.int ((i % 10 : Nat) : Int), .int (1 + (i : Int)), .tup true [.str sPut, .str (nmS i), .int (i : Int)]]
def rowS (i : Nat) : D := .tup true [.int (1000000000 - 26 + (i : Int)), .int (i : Int), askS i]
def bokS (i : Nat) : D := .tup true [.str (nmS i), .int (0 - (i : Int))]
def rowsS : List D := (List.range 26).map rowS ++ [.tup true [.int 1000000000, .int 29, .non]]
def boksS : List D := (List.range 26).map bokS
def anS (i : Nat) : D := [.non, .bl true, .bl false, .int 0, .int 1].getD i .non
def anssS : List D := (List.range 10).map fun i : Nat => .tup true [.int (i : Int), .int (1 + (i : Int)), anS (i % 5)]
def memsS : List D := [.int 30, .int 0, .int 29]
theorem askS_b : ∀ i < 26, askB (askS i) = true := by decide +kernel
theorem askS_d : ∀ i < 26, deedB (.tup true [.str sPut, .str (nmS i), .int (i : Int)]) = true := by decide +kernel
theorem askS_c {i : Nat} (h : i < 26) : AskC (askS i) := .inr ⟨_, _, _, rfl, askS_b i h, askS_d i h, _, rfl⟩
theorem rowsS_ok : ∀ r ∈ rowsS, RowC r := fun r hr => by
  rcases List.mem_append.mp hr with h | h
  · obtain ⟨i, hi, rfl⟩ := List.mem_map.mp h
    have hi := List.mem_range.mp hi
    exact ⟨_, _, _, rfl, by omega, by omega, by omega, by omega, askS_c hi⟩
  · rw [List.mem_singleton] at h
    exact ⟨_, _, _, h, by decide, by decide, by decide, by decide, .inl rfl⟩
theorem rowsS_c : chainB rowsS = true := by decide +kernel
theorem nmS_ok : ∀ i < 26, nameB (.str (nmS i)) = true := by decide +kernel
theorem staS_ok : staB (staD boksS anssS memsS) = true := by decide +kernel
theorem staS_c : StaC boksS anssS memsS := by
  refine ⟨staS_ok, fun x hx => ?_, fun x hx => ?_, fun x hx => ?_, by decide, by decide, by decide⟩
  · obtain ⟨i, hi, rfl⟩ := List.mem_map.mp hx
    have hi := List.mem_range.mp hi
    have e : (10 : Nat) ^ 30 = 1000000000000000000000000000000 := by decide
    exact ⟨_, _, rfl, nmS_ok i hi, by rw [e]; omega⟩
  · obtain ⟨i, hi, rfl⟩ := List.mem_map.mp hx
    have hi := List.mem_range.mp hi
    have c1 : ∀ i < 5, ansB (anS i) = true := by decide
    refine ⟨_, _, _, rfl, by omega, by omega, by omega, by omega, c1 _ (by omega), fun j hj => ?_⟩
    generalize hy : i % 5 = y at hj
    have hy5 : y < 5 := by omega
    match y, hy5 with
    | 0, _ => cases hj
    | 1, _ => cases hj
    | 2, _ => cases hj
    | 3, _ => cases hj; decide
    | 4, _ => cases hj; decide
  · simp only [memsS, List.mem_cons, List.not_mem_nil, or_false] at hx
    rcases hx with rfl | rfl | rfl
    · exact ⟨_, rfl, by decide, by decide⟩
    · exact ⟨_, rfl, by decide, by decide⟩
    · exact ⟨_, rfl, by decide, by decide⟩
theorem pairsL_at : ∀ (l : List Nat) (k i : Nat), (pairsL k l)[i]? = (l[i]?).map fun a => D.tup true [.int (.ofNat (k + i)), .str [a]]
  | [], k, i => by simp [pairsL]
  | a :: l, k, 0 => by simp [pairsL]
  | a :: l, k, i + 1 => by
    have := pairsL_at l (k + 1) i
    rw [show k + 1 + i = k + (i + 1) by omega] at this
    simpa [pairsL] using this
theorem lets_at : ∀ i < 26, (pairsL 0 [97, 98, 99, 100, 101, 102, 103, 104, 105, 106, 107, 108, 109, 110, 111, 112, 113, 114, 115, 116, 117, 118, 119, 120, 121, 122])[i]? = some (.tup true [.int (i : Int), .str [97 + i]]) := fun i hi => by
  have h : ∀ i < 26, ([97, 98, 99, 100, 101, 102, 103, 104, 105, 106, 107, 108, 109, 110, 111, 112, 113, 114, 115, 116, 117, 118, 119, 120, 121, 122] : List Nat)[i]? = some (97 + i) := by decide
  rw [pairsL_at, h i hi, Nat.zero_add]
  rfl
section
variable {S : Sto} {n : Nat} {d : D} {t : Tyn}
theorem eqv_same {x : D} (hx : Gd x) (dx : depD x ≤ 60) {S : Sto} : dNe x x S = .ok (.bl false) S := by rw [ne_gd hx hx dx dx, eqv_refl]; rfl
theorem v_law_signs : Fv (cal (n + 10)) 312 [] S (.bl true) := by
  refine fv_body (c := cal (n + 9)) (fun _ _ => rfl) ?_
  intro S1 l1
  have l2 := le_add (o := .lst 0 []) l1.wf
  have r1 := run_new (c := cal (n + 9)) (env := [none, none, none, none, none, none, none, none]) (i := 0) l1.wf
  have a2 : Acc S1 S1.nx [] (S1.add (.lst 0 [])) := ⟨l2, Nat.le_refl _, add_get⟩
  generalize hS2 : S1.add (.lst 0 []) = S2 at l2 a2 r1
  generalize hq0 : S1.nx = q0 at a2 r1
  have l3 := le_add (o := .lst 0 []) l2.wf
  have r2 := run_new (c := cal (n + 9)) (env := [some (.obj q0), none, none, none, none, none, none, none]) (i := 1) l2.wf
  have b3 : Acc S1 S2.nx [] (S2.add (.lst 0 [])) := ⟨l2.trans l3, l2.nx, add_get⟩
  have a3 := a2.mono l3
  have nq : q0 ≠ S2.nx := fun e => by have := l2.wf _ _ a2.at_; rw [e] at this; omega
  generalize hS3 : S2.add (.lst 0 []) = S3 at l3 a3 b3 r2
  generalize hq1 : S2.nx = q1 at b3 r2 nq
  have hpl : (pairsL 0 [97, 98, 99, 100, 101, 102, 103, 104, 105, 106, 107, 108, 109, 110, 111, 112, 113, 114, 115, 116, 117, 118, 119, 120, 121, 122]).length = 26 := rfl
  have key := for_inv (c := cal (n + 9)) (z := .tup (pairsL 0 [97, 98, 99, 100, 101, 102, 103, 104, 105, 106, 107, 108, 109, 110, 111, 112, 113, 114, 115, 116, 117, 118, 119, 120, 121, 122])) (g := gT [(gN 2), (gN 3)]) (b := (sSeq (sSet (gN 4) (eBin dMulS (eVar 3) (eBin dAdd (eC (.int (1))) (eBin dMod (eVar 2) (eC (.int (8)))))))
 (sSeq (sSet (gN 5) (eTup (aCons (eBin dMod (eVar 2) (eC (.int (10)))) (aCons (eBin dAdd (eC (.int (1))) (eVar 2)) (aCons (eTup (aCons (eC (.str [112, 117, 116])) (aCons (eVar 4) (aCons (eVar 2) aNil)))) aNil)))))
 (sSeq (sIf (tOr' (tOf (eBin dNe (eCall 166 [] (aCons (eCall 156 [] (aCons (eVar 5) aNil)) aNil)) (eVar 5))) (tOf (eBin dNe (eCall 156 [] (aCons (eVar 5) aNil)) (eCall 304 [] (aCons (eVar 5) aNil)))))
 (sSeq (sRet (eC (.bl false)))
 sNil)
 sNil)
 (sSeq (sX (eBM isLstD mAppend (eVar 0) (aCons (eTup (aCons (eBin dAdd (eBin dSub (eBin dPow (eC (.int (10))) (eC (.int (9)))) (eC (.int (26)))) (eVar 2)) (aCons (eVar 2) (aCons (eVar 5) aNil)))) aNil)))
 (sSeq (sX (eBM isLstD mAppend (eVar 1) (aCons (eTup (aCons (eVar 4) (aCons (eBin dSub (eC (.int (0))) (eVar 2)) aNil))) aNil)))
 sNil)))))) (xs := pairsL 0 [97, 98, 99, 100, 101, 102, 103, 104, 105, 106, 107, 108, 109, 110, 111, 112, 113, 114, 115, 116, 117, 118, 119, 120, 121, 122])
    (fun i env S' => (∃ o2 o3 o4 o5, env = [some (.obj q0), some (.obj q1), o2, o3, o4, o5, none, none]) ∧ Acc S1 q0 ((List.range i).map rowS) S' ∧ Acc S1 q1 ((List.range i).map bokS) S') (fun _ => False) (fun _ _ _ _ => rfl) (fun i hi env S' hI => ?_) (Iz.fuel (.tup (pairsL 0 [97, 98, 99, 100, 101, 102, 103, 104, 105, 106, 107, 108, 109, 110, 111, 112, 113, 114, 115, 116, 117, 118, 119, 120, 121, 122])) S3) 0 [some (.obj q0), some (.obj q1), none, none, none, none, none, none] S3 ⟨⟨_, _, _, _, rfl⟩, a3, b3⟩ (by show 26 < 26 + 1 + 0; decide) (Nat.zero_le _)
  · rcases key with ⟨env2, S4, e4, ⟨o2, o3, o4, o5, rfl⟩, a4, b4⟩ | ⟨h, _⟩
    · rw [hpl] at a4 b4
      -- the last row
      obtain ⟨S5, e5, l5⟩ := (pv_tup (c := cal (n + 9)) (env := [some (.obj q0), some (.obj q1), o2, o3, o4, o5, none, none]) (S := S4) (ds := [.int 1000000000, .int 29, .non]) (a := (aCons (eBin dPow (eC (.int (10))) (eC (.int (9)))) (aCons (eC (.int (29))) (aCons (eC .non) aNil)))) (pa_c (pv_bin pv_c pv_c fun _ => rfl) (pa_c pv_c (pa_c pv_c pa_n))) (of_decide_eq_true rfl)) S4 (.refl a4.le.wf)
      have r5 := run_append (c := cal (n + 9)) (env := [some (.obj q0), some (.obj q1), o2, o3, o4, o5, none, none]) (i := 0) rfl a4.at_ (of_decide_eq_true rfl) e5 l5
      have a6 : Acc S1 q0 rowsS (S5.put q0 (.lst 0 ((List.range 26).map rowS ++ [.tup true [.int 1000000000, .int 29, .non]]))) := (a4.mono l5).push
      have b6 : (S5.put q0 (.lst 0 ((List.range 26).map rowS ++ [.tup true [.int 1000000000, .int 29, .non]]))).get q1 = some (.lst 0 boksS) := by
        rw [Sto.put_ne (Ne.symm nq)]; exact l5.get b4.at_
      generalize hS6 : S5.put q0 (.lst 0 ((List.range 26).map rowS ++ [.tup true [.int 1000000000, .int 29, .non]])) = S6 at r5 a6 b6
      have fin : Ps (cal (n + 9)) [some (.obj q0), some (.obj q1), o2, o3, o4, o5, none, none] S6 (sSeq (sSet (gN 6) (eB bTup (aCons (eLc [7] (iRange (aCons (eC (.int (10))) aNil)) (gN 7) tYesV (eTup (aCons (eVar 7) (aCons (eBin dAdd (eC (.int (1))) (eVar 7)) (aCons (eBin dSub' (eLst (aCons (eC .non) (aCons (eC (.bl true)) (aCons (eC (.bl false)) (aCons (eC (.int (0))) (aCons (eC (.int (1))) aNil)))))) (eBin dMod (eVar 7) (eC (.int (5))))) aNil))))) aNil)))
 (sSeq (sRet (eCall 311 [] (aCons (eC .non) (aCons (eVar 0) (aCons (eTup (aCons (eB bTup (aCons (eVar 1) aNil)) (aCons (eVar 6) (aCons (eTup (aCons (eC (.int (30))) (aCons (eC (.int (0))) (aCons (eC (.int (29))) aNil)))) aNil)))) aNil)))))
 sNil)) (.rt (.bl true)) := by
        refine ps_seq (env1 := [some (.obj q0), some (.obj q1), o2, o3, o4, o5, some (.tup true anssS), none]) (ps_set (pv_tupl (Pl.to (pl_lc (f := fun x => match x with | .int v => .tup true [.int v, .int (1 + v), anS (v.toNat % 5)] | _ => .non) (pi_rng pv_c rfl) (fun x hx => ?_) (by rw [rngL_len]; decide)) ?_)) fun _ => rfl) (ps_fin ?_)
        · obtain ⟨i, hi, rfl⟩ := List.mem_map.mp hx
          have hi : i < 10 := List.mem_range.mp hi
          refine ⟨_, fun _ => rfl, pv_tup (pa_c (pv_var rfl) (pa_c (pv_addi pv_c (pv_var rfl)) (pa_c (pv_ixn (pl_lst (pa_c pv_c (pa_c pv_c (pa_c pv_c (pa_c pv_c (pa_c pv_c pa_n))))) (of_decide_eq_true rfl)) (pv_mod (pv_var rfl) pv_c (by decide)) ?_) pa_n))) (of_decide_eq_true rfl)⟩
          match i, hi with
          | 0, _ => rfl
          | 1, _ => rfl
          | 2, _ => rfl
          | 3, _ => rfl
          | 4, _ => rfl
          | 5, _ => rfl
          | 6, _ => rfl
          | 7, _ => rfl
          | 8, _ => rfl
          | 9, _ => rfl
        · unfold rngL anssS
          rw [List.map_map]
          rfl
        · refine pv_call (pa_c pv_c (pa_c (pv_var rfl) (pa_c (pv_tup (pa_c (pv_bS (d := .tup true boksS) (pa_c (pv_var rfl) pa_n) fun S7 l7 => ?_) (pa_c (pv_var rfl) (pa_c (pv_tup (pa_c pv_c (pa_c pv_c (pa_c pv_c pa_n))) (of_decide_eq_true rfl)) pa_n))) (of_decide_eq_true rfl)) pa_n))) (v_law_right (n := n) a6.at_ (.inl rfl) rowsS_ok rowsS_c (by decide) staS_c)
          show (match seqD (.obj q1) S7 with | some xs => Rs.ok (D.tup true xs) S7 | none => .no) = _
          rw [seqD_lst (l7.get b6)]
      obtain ⟨S7, e7, l7⟩ := fin S6 (.refl a6.le.wf)
      refine ⟨S7, ?_, a6.le.trans l7⟩
      refine (sSeq_run r1).trans ((sSeq_run r2).trans ((sSeq_run ((run_for (S1 := S3) (z := .tup (pairsL 0 [97, 98, 99, 100, 101, 102, 103, 104, 105, 106, 107, 108, 109, 110, 111, 112, 113, 114, 115, 116, 117, 118, 119, 120, 121, 122])) rfl).trans e4)).trans ((sSeq_run r5).trans e7)))
    · exact h.elim
  · obtain ⟨⟨o2, o3, o4, o5, rfl⟩, a4, b4⟩ := hI
    have hi26 : i < 26 := hi
    have hx : (pairsL 0 [97, 98, 99, 100, 101, 102, 103, 104, 105, 106, 107, 108, 109, 110, 111, 112, 113, 114, 115, 116, 117, 118, 119, 120, 121, 122])[i]'hi = .tup true [.int (i : Int), .str [97 + i]] := by
      have := lets_at i hi26
      rw [List.getElem?_eq_getElem hi] at this
      exact Option.some.inj this
    refine ⟨[some (.obj q0), some (.obj q1), some (.int (i : Int)), some (.str [97 + i]), o4, o5, none, none], S', by rw [hx]; rfl, .inl ?_⟩
    have hA := askS_c hi26
    obtain ⟨kb, kc⟩ := ask_back hA
    obtain ⟨kg, kd, kr⟩ := ask_gd hA.ok
    have kl := askT_len' hA.ok
    have f8 : (i : Int).fmod 8 = ((i % 8 : Nat) : Int) := by rw [Int.fmod_eq_emod_of_nonneg _ (by decide)]; omega
    have f10 : (i : Int).fmod 10 = ((i % 10 : Nat) : Int) := by rw [Int.fmod_eq_emod_of_nonneg _ (by decide)]; omega
    have v4 : Pv (cal (n + 9)) [some (.obj q0), some (.obj q1), some (.int (i : Int)), some (.str [97 + i]), o4, o5, none, none] S' (eBin dMulS (eVar 3) (eBin dAdd (eC (.int (1))) (eBin dMod (eVar 2) (eC (.int (8)))))) (.str (nmS i)) := by
      refine pv_bin (y := .int ((1 + i % 8 : Nat) : Int)) (pv_var rfl) (Pv.to (pv_addi pv_c (pv_mod (pv_var rfl) pv_c (by decide))) (by rw [f8]; congr 1)) fun _ => ?_
      show (match Nat.blt 0 (1 + i % 8) && Nat.ble ([97 + i].length * (1 + i % 8)) big && Nat.ble (1 + i % 8) big with | true => Rs.ok (D.str (List.replicate (1 + i % 8) [97 + i]).flatten) _ | false => .no) = _
      have b1 : Nat.blt 0 (1 + i % 8) = true := Nat.blt_eq.mpr (by omega)
      have b2 : Nat.ble ([97 + i].length * (1 + i % 8)) big = true := Nat.ble_eq_true_of_le (by show 1 * (1 + i % 8) ≤ 16777216; omega)
      have b3 : Nat.ble (1 + i % 8) big = true := Nat.ble_eq_true_of_le (by unfold big; omega)
      rw [b1, b2, b3]
      rfl
    have step : Ps (cal (n + 9)) [some (.obj q0), some (.obj q1), some (.int (i : Int)), some (.str [97 + i]), o4, o5, none, none] S' (sSeq (sSet (gN 4) (eBin dMulS (eVar 3) (eBin dAdd (eC (.int (1))) (eBin dMod (eVar 2) (eC (.int (8)))))))
 (sSeq (sSet (gN 5) (eTup (aCons (eBin dMod (eVar 2) (eC (.int (10)))) (aCons (eBin dAdd (eC (.int (1))) (eVar 2)) (aCons (eTup (aCons (eC (.str [112, 117, 116])) (aCons (eVar 4) (aCons (eVar 2) aNil)))) aNil)))))
 (sSeq (sIf (tOr' (tOf (eBin dNe (eCall 166 [] (aCons (eCall 156 [] (aCons (eVar 5) aNil)) aNil)) (eVar 5))) (tOf (eBin dNe (eCall 156 [] (aCons (eVar 5) aNil)) (eCall 304 [] (aCons (eVar 5) aNil)))))
 (sSeq (sRet (eC (.bl false)))
 sNil)
 sNil) sNil))) (.nx [some (.obj q0), some (.obj q1), some (.int (i : Int)), some (.str [97 + i]), some (.str (nmS i)), some (askS i), none, none]) := by
      refine ps_seq (ps_set v4 fun _ => rfl) (ps_seq (env1 := [some (.obj q0), some (.obj q1), some (.int (i : Int)), some (.str [97 + i]), some (.str (nmS i)), some (askS i), none, none]) (ps_set (pv_tup (pa_c (pv_mod (pv_var rfl) pv_c (by decide)) (pa_c (pv_addi pv_c (pv_var rfl)) (pa_c (pv_tup (pa_c pv_c (pa_c (pv_var rfl) (pa_c (pv_var rfl) pa_n))) (of_decide_eq_true rfl)) pa_n))) (of_decide_eq_true rfl)) fun _ => by rw [f10]; rfl) ?_)
      refine ps_ifn (k := false) (pt_or (x := false) (y := false) (pt_of (pv_bin (pv_call (pa_c (pv_call (pa_c (pv_var rfl) pa_n) (v_show_ask' (n := n + 3) hA.ok)) pa_n) (v_read_ask (n := n + 2) (by omega) (fun a ha => (kc a ha).1) kb)) (pv_var rfl) fun _ => eqv_same kg (by omega))) fun _ => pt_of (pv_bin (pv_call (pa_c (pv_var rfl) pa_n) (v_show_ask' (n := n + 3) hA.ok)) (pv_call (pa_c (pv_var rfl) pa_n) (v_law_ask_text (n := n + 8) hA.ok)) fun _ => ne_same)) (fun h => by cases h) fun _ => ps_nil
    obtain ⟨S5, e5, l5⟩ := step S' (.refl a4.le.wf)
    obtain ⟨S6, e6, l6⟩ := (pv_tup (c := cal (n + 9)) (env := [some (.obj q0), some (.obj q1), some (.int (i : Int)), some (.str [97 + i]), some (.str (nmS i)), some (askS i), none, none]) (S := S5) (ds := [.int (1000000000 - 26 + (i : Int)), .int (i : Int), askS i]) (a := (aCons (eBin dAdd (eBin dSub (eBin dPow (eC (.int (10))) (eC (.int (9)))) (eC (.int (26)))) (eVar 2)) (aCons (eVar 2) (aCons (eVar 5) aNil)))) (pa_c (pv_addi (pv_subi (i := 1000000000) (pv_bin pv_c pv_c fun _ => rfl) pv_c) (pv_var rfl)) (pa_c (pv_var rfl) (pa_c (pv_var rfl) pa_n))) (of_decide_eq_true rfl)) S5 (.refl l5.wf)
    have r6 := run_append (c := cal (n + 9)) (env := [some (.obj q0), some (.obj q1), some (.int (i : Int)), some (.str [97 + i]), some (.str (nmS i)), some (askS i), none, none]) (i := 0) rfl ((a4.mono l5).at_) (by rw [List.length_map, List.length_range]; unfold big; omega) e6 l6
    have e7 : (List.range i).map rowS ++ [.tup true [.int (1000000000 - 26 + (i : Int)), .int (i : Int), askS i]] = (List.range (i + 1)).map rowS := (range_snoc _ _).symm
    rw [e7] at r6
    have a7 : Acc S1 q0 ((List.range (i + 1)).map rowS) (S6.put q0 (.lst 0 ((List.range (i + 1)).map rowS))) := (a4.mono (l5.trans l6)).push
    have b7 : Acc S1 q1 ((List.range i).map bokS) (S6.put q0 (.lst 0 ((List.range (i + 1)).map rowS))) := ⟨a7.le, b4.new, by rw [Sto.put_ne (Ne.symm nq)]; exact (l5.trans l6).get b4.at_⟩
    generalize hS7 : S6.put q0 (.lst 0 ((List.range (i + 1)).map rowS)) = S7 at r6 a7 b7
    obtain ⟨S8, e8, l8⟩ := (pv_tup (c := cal (n + 9)) (env := [some (.obj q0), some (.obj q1), some (.int (i : Int)), some (.str [97 + i]), some (.str (nmS i)), some (askS i), none, none]) (S := S7) (ds := [.str (nmS i), .int (0 - (i : Int))]) (a := (aCons (eVar 4) (aCons (eBin dSub (eC (.int (0))) (eVar 2)) aNil))) (pa_c (pv_var rfl) (pa_c (pv_subi pv_c (pv_var rfl)) pa_n)) (of_decide_eq_true rfl)) S7 (.refl a7.le.wf)
    have r8 := run_append (c := cal (n + 9)) (env := [some (.obj q0), some (.obj q1), some (.int (i : Int)), some (.str [97 + i]), some (.str (nmS i)), some (askS i), none, none]) (i := 1) rfl b7.at_ (by rw [List.length_map, List.length_range]; unfold big; omega) e8 l8
    have e9 : (List.range i).map bokS ++ [.tup true [.str (nmS i), .int (0 - (i : Int))]] = (List.range (i + 1)).map bokS := (range_snoc _ _).symm
    rw [e9] at r8
    refine ⟨[some (.obj q0), some (.obj q1), some (.int (i : Int)), some (.str [97 + i]), some (.str (nmS i)), some (askS i), none, none], _, .inl ?_, ⟨_, _, _, _, rfl⟩, ?_, (b7.mono l8).push⟩
    · have assoc : ∀ a b d f : Sv, sSeq a (sSeq b (sSeq d f)) = sSeq (sSeq a (sSeq b (sSeq d sNil))) f := fun a b d f => by
        rw [sSeq_assoc, sSeq_assoc, sSeq_assoc]; rfl
      rw [assoc]
      exact (sSeq_run e5).trans ((sSeq_run r6).trans ((sSeq_run r8).trans rfl))
    · exact ⟨((b7.mono l8).push).le, a7.new, by rw [Sto.put_ne nq]; exact l8.get a7.at_⟩
end
end Ev
set_option Elab.async false
set_option linter.all false
set_option maxRecDepth 100000
set_option maxHeartbeats 0
namespace Ev
open PySem
local macro_rules
  | `(tactic| nofun) => `(tactic| first
    | exact pv_var rfl
    | exact pv_c
    | exact pa_n
    | exact pt_yes
    | exact po_no
    | assumption
    | (with_reducible apply po_part
       nofun)
    | (with_reducible apply pa_c
       · nofun
       · nofun)
    | (with_reducible apply pt_of
       nofun)
    | (with_reducible apply pt_not
       nofun)
    | (with_reducible apply pt_or_t
       with_reducible apply Pt.to
       · nofun
       · first | rfl | (simp [*]; done))
    | (with_reducible apply pt_or
       · nofun
       · (intro _
          nofun))
    | (with_reducible apply pt_and_f
       with_reducible apply Pt.to
       · nofun
       · first | rfl | (simp [*]; done))
    | (with_reducible apply pt_and
       · nofun
       · (intro _
          nofun))
    | (with_reducible apply pv_and_f
       with_reducible apply Pv.to
       · nofun
       · first | rfl | (simp [*]; done))
    | (with_reducible apply pv_and
       · nofun
       · (intro _
          nofun))
    | (with_reducible apply pv_or_t
       with_reducible apply Pv.to
       · nofun
       · first | rfl | (simp [*]; done))
    | (with_reducible apply pv_or
       · nofun
       · (intro _
          nofun))
    | (with_reducible apply pv_not
       nofun)
    | (with_reducible apply pv_neg
       nofun)
    | (with_reducible apply pv_is
       · nofun
       · first | exact tys_of rfl | assumption)
    | (with_reducible apply pv_tup
       · nofun
       · exact of_decide_eq_true rfl)
    | (with_reducible apply pl_lst
       · nofun
       · exact of_decide_eq_true rfl)
    | (with_reducible apply pv_call
       · nofun
       · assumption)
    | (with_reducible apply pl_call
       · nofun
       · assumption)
    | (with_reducible apply pv_callK
       · nofun
       · nofun
       · assumption)
    | (with_reducible apply pv_b
       · nofun
       · first | exact fun _ => len_t | exact fun _ => len_s (by assumption) | exact fun _ => rfl)
    | (with_reducible apply pv_bS
       · nofun
       · exact fun _ l => len_l (l.get (by assumption)))
    | (with_reducible apply pv_bin
       · nofun
       · nofun
       · first | exact fun _ => le_i | exact fun _ => lt_i | exact fun _ => gt_i | exact fun _ => ge_i | exact fun _ => eq_i | exact fun _ => ne_i | exact fun _ => eq_s | exact fun _ => ne_s | exact fun _ => in_two | exact fun _ => ix_t rfl | exact fun _ => rfl)
    | (with_reducible apply pv_binS
       · nofun
       · nofun
       · exact fun _ l => ix_l (l.get (by assumption)) rfl)
    | (with_reducible apply pv_chain
       · nofun
       · nofun
       · exact fun _ => le_i
       · (intro _
          nofun)
       · exact fun _ _ => le_i)
    | (with_reducible apply pv_bm
       · nofun
       · nofun
       · exact fun _ => rfl
       · exact fun _ => rfl)
    | (with_reducible apply pv_tupl
       nofun))

/-! ### the law -/
theorem cons_run {c : Cal} {env : Slots} {S S1 S2 : Sto} {e : Ev} {r : Av} {d : D} {ds : List D} (he : e c env S = .ok d S1) (hr : r c env S1 = .ok ds S2) : aCons e r c env S = .ok (d :: ds) S2 := by
  unfold aCons
  rw [he]
  show Rs.bind (r c env S1) _ = _
  rw [hr]; rfl
theorem pv_eqll {c : Cal} {env : Slots} {S : Sto} {a b : Ev} {xs ys : List D} (ha : Pl c env S a xs) (hb : Pl c env S b ys) (gx : ∀ x ∈ xs, Gd x) (gy : ∀ x ∈ ys, Gd x) (dx : ∀ x ∈ xs, depD x ≤ 59) (dy : ∀ x ∈ ys, depD x ≤ 59) :
    Pv c env S (eBin dEq a b) (.bl (Dt.eqvs (xs.map dtD) (ys.map dtD))) := fun S1 l => by
  obtain ⟨p, S2, e2, l2, g2, _⟩ := ha S1 l
  obtain ⟨q, S3, e3, l3, g3, _⟩ := hb S2 (l.trans l2)
  refine ⟨S3, ?_, l2.trans l3⟩
  unfold eBin
  rw [e2]
  show Rs.bind (b c env S2) _ = _
  rw [e3]
  show dEq (.obj p) (.obj q) S3 = _
  unfold dEq
  rw [deq_ll (l3.get g2) g3 gx gy dx dy]
def dgA : List Int := [4, 7, 4, 4, 10, 2] ++ rowZ
theorem dig_drop {L : List Int} (h : Dig L dgA) : Dig (L.drop 6) rowZ := by
  have hl : L.length = 55 := h.1
  refine ⟨by rw [List.length_drop, hl]; rfl, fun i x z hx hz => ?_⟩
  rw [List.getElem?_drop] at hx
  exact h.2 (6 + i) x z hx (by
    have : dgA = [4, 7, 4, 4, 10, 2] ++ rowZ := rfl
    rw [this, List.getElem?_append_right (by simp)]
    simpa using hz)
theorem dig_get {L zs : List Int} (h : Dig L zs) {i : Nat} {z : Int} (hz : zs[i]? = some z) : ∃ x, L[i]? = some x ∧ 0 ≤ x ∧ x < z := by
  have hi : i < L.length := by
    rw [h.1]
    by_cases hi : i < zs.length
    · exact hi
    · rw [List.getElem?_eq_none (by omega)] at hz; cases hz
  exact ⟨L[i], List.getElem?_eq_getElem hi, h.2 i _ _ (List.getElem?_eq_getElem hi) hz⟩
def tDrop : D := .tup true [.str [100, 114, 111, 112], .str [97]]
section
variable {S : Sto} {n : Nat} {d : D} {t : Tyn}
theorem v_cell {p3 p4 : Po} {L M : List Int} {o1 o2 : Option D} (g3 : S.get p3 = some (.lst 0 (L.map .int))) (g4 : S.get p4 = some (.lst 0 (M.map .int))) (hL : Dig L dgA) (hM : Dig M staZ) (o0 o5 : Option D) :
    Pv (cal (n + 10)) [o0, o1, o2, some (.obj p3), some (.obj p4), o5] S (eCall 311 [] (aCons (eCall 303 [] (aCons (eVar 3) aNil)) (aCons (eCall 308 [] (aCons (eSl (eVar 3) (oPart (eC (.int (6)))) oNo) aNil)) (aCons (eCall 309 [] (aCons (eVar 4) aNil)) aNil)))) (.bl true) := by
  obtain ⟨a, h0, _⟩ := dig_get hL (i := 0) (z := 4) rfl
  obtain ⟨b, h1, hb⟩ := dig_get hL (i := 1) (z := 7) rfl
  obtain ⟨e, h2, he⟩ := dig_get hL (i := 2) (z := 4) rfl
  obtain ⟨f, h3, _⟩ := dig_get hL (i := 3) (z := 4) rfl
  obtain ⟨g, h4, hg⟩ := dig_get hL (i := 4) (z := 10) rfl
  have hR := dig_drop hL
  obtain ⟨x, hx, hx0, hx9⟩ := dig_get hR (i := 0) (z := 9) rfl
  obtain ⟨m, rfl⟩ := Int.eq_ofNat_of_zero_le hx0
  have sl := pl_sl (c := cal (n + 10)) (env := [o0, o1, o2, some (.obj p3), some (.obj p4), o5]) (S := S) (a := eVar 3) (pv_var rfl) (po_part (a := eC (.int 6)) pv_c) po_no (seqD_lst g3) fun S1 l1 => seqD_lst (l1.get g3)
  rw [show (6 : Int) = ((6 : Nat) : Int) from rfl, cut_from, ← List.map_drop] at sl
  obtain ⟨r1, r2, r3, _⟩ := rowF_ok hR m 0 0 (-1) (by omega) (by decide) (by decide) (by decide) (by decide)
  have st : StaC (bkF M (dN M 0)) (anF M (dN M 1)) (msN (dN M 12) (dN M 13) (1 + dN M 2)) := by
    have h0 := (dN_at hM (i := 0) (z := 5) rfl).2
    have h1 := (dN_at hM (i := 1) (z := 5) rfl).2
    have h2 := (dN_at hM (i := 2) (z := 7) rfl).2
    have hml : ∀ k, (msN (dN M 12) (dN M 13) k).length = k := fun k => by
      induction k with
      | zero => rfl
      | succ k ih =>
        have : dN M 12 % (k + 1) < k + 1 := Nat.mod_lt _ (by omega)
        simp only [msN, List.length_append, List.length_take, List.length_drop, List.length_cons, List.length_nil, ih]
        omega
    refine ⟨staF_ok hM, bkF_ok hM, anF_ok hM, msN_mem _ _ _, ?_, ?_, ?_⟩
    · unfold bkF; rw [List.length_map, List.length_range]; omega
    · unfold anF; rw [List.length_map, List.length_range]; omega
    · rw [hml]; omega
  refine pv_vlv (x := askA a b e f g) (xs := rowF (L.drop 6) m 0 0 (-1)) (z := staF M) (pv_call (pa_c (pv_var rfl) pa_n) (v_law_ask_of (n := n + 8) g3 h0 h1 h2 h3 h4)) (pl_calll sl fun p S1 l1 g1 => ?_) (pv_call (pa_c (pv_var rfl) pa_n) (v_law_state (n := n + 9) g4 hM)) fun p S1 l1 g1 => ?_
  · obtain ⟨m', e1, _, e2⟩ := v_law_row (n := n + 7) g1 hR
    rw [hx] at e1
    have : m = m' := by have := Option.some.inj e1; omega
    subst this
    exact e2
  · exact v_law_right (n := n + 1) g1 (askA_ok hb he hg) r1 r3 (by omega) st
theorem pl_sizes {env : Slots} {c : Cal} : Pl c env S (eBin dAdd (eBin dAdd (eLst (aCons (eC (.int (4))) (aCons (eC (.int (7))) (aCons (eC (.int (4))) (aCons (eC (.int (4))) (aCons (eC (.int (10))) (aCons (eC (.int (2))) aNil))))))) (eLst (aCons (eC (.int (9))) aNil))) (eBin dMul (eLst (aCons (eC (.int (4))) (aCons (eC (.int (7))) (aCons (eC (.int (4))) (aCons (eC (.int (4))) (aCons (eC (.int (10))) (aCons (eC (.int (5))) aNil))))))) (eC (.int (8)))))
    (dgA.map .int) :=
  Pl.to (pl_cat (pl_cat (pl_lst (pa_c pv_c (pa_c pv_c (pa_c pv_c (pa_c pv_c (pa_c pv_c (pa_c pv_c pa_n)))))) (of_decide_eq_true rfl)) (pl_lst (pa_c pv_c pa_n) (of_decide_eq_true rfl)) (of_decide_eq_true rfl)) (pl_mul (k := 8) (pl_lst (pa_c pv_c (pa_c pv_c (pa_c pv_c (pa_c pv_c (pa_c pv_c (pa_c pv_c pa_n)))))) (of_decide_eq_true rfl)) pv_c (by decide) (of_decide_eq_true rfl)) (of_decide_eq_true rfl)) rfl
theorem dgA_pos : ∀ z ∈ dgA, 0 < z ∧ z < 1073741824 := by decide
theorem staZ_pos : ∀ z ∈ staZ, 0 < z ∧ z < 1073741824 := by decide
theorem lk_lst {p : Po} {k : Nat} {xs : List D} (h : S.get p = some (.lst k xs)) : Lk S (.obj p) := ⟨.lst, fun S1 l => by unfold tyn; dsimp only; rw [l.get h]⟩
theorem lk_dic {p : Po} {b : Bool} {kvs : List (Ky × D)} (h : S.get p = some (.dic b kvs)) : Lk S (.obj p) := ⟨.dic, fun S1 l => by unfold tyn; dsimp only; rw [l.get h]⟩
theorem bad_obj {p : Po} (h : Lk S (.obj p)) : Bad S (.obj p) := ⟨h, fun _ _ e => (by cases e), fun e => (by cases e), rfl, rfl⟩
theorem bad_flat {d : D} (h : Sma d) (hn : d ≠ .non) (ha : askB d = false) (hs : staB d = false) : Bad S d := ⟨h.lk, fun _ _ _ => h, hn, ha, hs⟩
theorem v_law {ns : List Int} {p : Po} (hp : S.get p = some (.rol (ns.map .int))) (hl : ns.length ≤ 63) : Fv (cal (n + 11)) 313 [.obj p] S (.bl true) := by
  refine fv_body (c := cal (n + 10)) (fun _ _ => rfl) ?_
  intro S1 l1
  -- the cells
  let cs : List Int := (ns ++ [1]).take 10
  have hcl : cs.length ≤ 10 := by show ((ns ++ [1]).take 10).length ≤ 10; rw [List.length_take]; omega
  obtain ⟨pc, S2, e2, l2, g2, n2⟩ := (pl_sln (c := cal (n + 10)) (env := [some (.obj p), none, none, none, none, none]) (S := S) (lo := oNo) (hi := oPart (eC (.int 10))) (pl_catL (a := eVar 0) (b := eLst (aCons (eC (.int 1)) aNil)) (pv_var rfl) (fun S3 l3 => seqD_rol (l3.get hp)) (pl_lst (pa_c pv_c pa_n) (of_decide_eq_true rfl)) (by rw [List.length_map]; show ns.length + 1 ≤ big; unfold big; omega)) po_no (po_part pv_c)) S1 l1
  have hcut : cutD (ns.map D.int ++ [D.int 1]) none (some 10) = cs.map .int := by
    rw [show (10 : Int) = ((10 : Nat) : Int) from rfl, cut_to]
    show (ns.map D.int ++ [D.int 1]).take 10 = ((ns ++ [1]).take 10).map .int
    rw [List.map_take, List.map_append]; rfl
  rw [hcut] at g2
  have hlm : (enmL (cs.map D.int)).length = cs.length := by rw [enmL_len, List.length_map]
  have key := for_inv (c := cal (n + 10)) (z := .enm pc) (g := gT [(gN 1), (gN 2)]) (b := (sSeq (sSet (gN 3) (eCall 301 [] (aCons (eVar 2) (aCons (eVar 1) (aCons (eBin dAdd (eBin dAdd (eLst (aCons (eC (.int (4))) (aCons (eC (.int (7))) (aCons (eC (.int (4))) (aCons (eC (.int (4))) (aCons (eC (.int (10))) (aCons (eC (.int (2))) aNil))))))) (eLst (aCons (eC (.int (9))) aNil))) (eBin dMul (eLst (aCons (eC (.int (4))) (aCons (eC (.int (7))) (aCons (eC (.int (4))) (aCons (eC (.int (4))) (aCons (eC (.int (10))) (aCons (eC (.int (5))) aNil))))))) (eC (.int (8))))) aNil))))) (sSeq (sSet (gN 4) (eCall 301 [] (aCons (eVar 2) (aCons (eBin dAdd (eVar 1) (eC (.int (50)))) (aCons (eLst (aCons (eC (.int (5))) (aCons (eC (.int (5))) (aCons (eC (.int (7))) (aCons (eC (.int (4))) (aCons (eC (.int (4))) (aCons (eC (.int (4))) (aCons (eC (.int (4))) (aCons (eC (.int (9))) (aCons (eC (.int (7))) (aCons (eC (.int (7))) (aCons (eC (.int (7))) (aCons (eC (.int (7))) (aCons (eC (.int (5))) (aCons (eC (.int (31))) aNil))))))))))))))) aNil))))) (sSeq (sIf (tNot' (tOf (eCall 311 [] (aCons (eCall 303 [] (aCons (eVar 3) aNil)) (aCons (eCall 308 [] (aCons (eSl (eVar 3) (oPart (eC (.int (6)))) oNo) aNil)) (aCons (eCall 309 [] (aCons (eVar 4) aNil)) aNil)))))) (sSeq (sRet (eC (.bl false))) sNil) sNil) sNil)))) (xs := enmL (cs.map .int)) (fun i env S' => (∃ o1 o2 o3 o4, env = [some (.obj p), o1, o2, o3, o4, none]) ∧ Le S1 S' ∧ S'.get pc = some (.lst 0 (cs.map .int))) (fun _ => False) (fun i env S' h => at_enm (seqD_lst h.2.2) h.2.1.wf) (fun i hi env S' hI => ?_) (Iz.fuel (.enm pc) S2) 0 [some (.obj p), none, none, none, none, none] S2 ⟨⟨_, _, _, _, rfl⟩, l2, g2⟩ ?_ (Nat.zero_le _)
  · rcases key with ⟨env3, S3, e3, ⟨o1, o2, o3, o4, rfl⟩, l3, _⟩ | ⟨h, _⟩
    · -- the nine things
      have pt_ : ∀ (S' : Sto) (e : Ev) (x : D), Le S1 S' → Pv (cal (n + 10)) [some (.obj p), o1, o2, o3, o4, none] S3 e x → Le S3 S' → ∃ S'', e (cal (n + 10)) [some (.obj p), o1, o2, o3, o4, none] S' = .ok x S'' ∧ Le S' S'' := fun S' e x _ h l => h S' l
      have w3 := l3.wf
      have t0 : Pv (cal (n + 10)) [some (.obj p), o1, o2, o3, o4, none] S3 (eTup aNil) (.tup true []) := pv_tup pa_n (of_decide_eq_true rfl)
      obtain ⟨A1, x1, k1⟩ := t0 S3 (.refl w3)
      obtain ⟨A2, x2, k2⟩ := (pv_c (c := cal (n + 10)) (env := [some (.obj p), o1, o2, o3, o4, none]) (S := S3) (d := .int 5)) A1 k1
      obtain ⟨A3, x3, k3⟩ := (pv_c (c := cal (n + 10)) (env := [some (.obj p), o1, o2, o3, o4, none]) (S := S3) (d := .str [45])) A2 (k1.trans k2)
      have c3 := k1.trans (k2.trans k3)
      have tdr : Pv (cal (n + 10)) [some (.obj p), o1, o2, o3, o4, none] S3 (eTup (aCons (eC (.str [100, 114, 111, 112])) (aCons (eC (.str [97])) aNil))) tDrop := pv_tup (pa_c pv_c (pa_c pv_c pa_n)) (of_decide_eq_true rfl)
      obtain ⟨A4, x4, k4⟩ := (pv_tup (pa_c (pv_c (c := cal (n + 10)) (env := [some (.obj p), o1, o2, o3, o4, none]) (S := S3) (d := .int 0)) (pa_c (pv_c (d := .int 0)) (pa_c tdr pa_n))) (of_decide_eq_true rfl)) A3 c3
      have c4 := c3.trans k4
      obtain ⟨A5, x5, k5⟩ := (pv_tup (pa_c (pv_c (c := cal (n + 10)) (env := [some (.obj p), o1, o2, o3, o4, none]) (S := S3) (d := .int 0)) (pa_c (pv_c (d := .int 1)) (pa_c (pv_tup (pa_c (pv_c (d := .str [100, 114, 111, 112])) pa_n) (of_decide_eq_true rfl)) pa_n))) (of_decide_eq_true rfl)) A4 c4
      have c5 := c4.trans k5
      obtain ⟨p6, A6, x6, k6, g6, n6⟩ := (pl_lst (pa_c (pv_c (c := cal (n + 10)) (env := [some (.obj p), o1, o2, o3, o4, none]) (S := S3) (d := .int 0)) (pa_c (pv_c (d := .int 1)) (pa_c tdr pa_n))) (of_decide_eq_true rfl)) A5 c5
      have c6 := c5.trans k6
      obtain ⟨A7, x7, k7⟩ := (pv_c (c := cal (n + 10)) (env := [some (.obj p), o1, o2, o3, o4, none]) (S := S3) (d := .bl true)) A6 c6
      have c7 := c6.trans k7
      have k8 := le_add (o := .dic false []) k7.wf
      have x8 : eDnew (cal (n + 10)) [some (.obj p), o1, o2, o3, o4, none] A7 = .ok (.obj A7.nx) (A7.add (.dic false [])) := mkO_eq k7.wf
      have c8 := c7.trans k8
      have g8 : (A7.add (.dic false [])).get A7.nx = some (.dic false []) := add_get
      obtain ⟨A9, x9, k9⟩ := (pv_tup (pa_c t0 (pa_c t0 pa_n)) (of_decide_eq_true rfl)) _ c8
      have c9 := c8.trans k9
      have xn : aNil (cal (n + 10)) [some (.obj p), o1, o2, o3, o4, none] A9 = .ok [] A9 := rfl
      have hthings := cons_run x1 (cons_run x2 (cons_run x3 (cons_run x4 (cons_run x5 (cons_run x6 (cons_run x7 (cons_run x8 (cons_run x9 xn))))))))
      have k10 := le_add (o := .lst 0 [.tup true [], .int 5, .str [45], .tup true [.int 0, .int 0, tDrop], .tup true [.int 0, .int 1, .tup true [.str [100, 114, 111, 112]]], .obj p6, .bl true, .obj A7.nx, .tup true [.tup true [], .tup true []]]) c9.wf
      have c10 := c9.trans k10
      have g10 : (A9.add (.lst 0 [.tup true [], .int 5, .str [45], .tup true [.int 0, .int 0, tDrop], .tup true [.int 0, .int 1, .tup true [.str [100, 114, 111, 112]]], .obj p6, .bl true, .obj A7.nx, .tup true [.tup true [], .tup true []]])).get A9.nx = _ := add_get
      have hlst : ∀ a : Av, a (cal (n + 10)) [some (.obj p), o1, o2, o3, o4, none] S3 = .ok [.tup true [], .int 5, .str [45], .tup true [.int 0, .int 0, tDrop], .tup true [.int 0, .int 1, .tup true [.str [100, 114, 111, 112]]], .obj p6, .bl true, .obj A7.nx, .tup true [.tup true [], .tup true []]] A9 → iVal (eLst a) (cal (n + 10)) [some (.obj p), o1, o2, o3, o4, none] S3 = .ok (.lst A9.nx) (A9.add (.lst 0 [.tup true [], .int 5, .str [45], .tup true [.int 0, .int 0, tDrop], .tup true [.int 0, .int 1, .tup true [.str [100, 114, 111, 112]]], .obj p6, .bl true, .obj A7.nx, .tup true [.tup true [], .tup true []]])) := fun a ha => by
        unfold iVal eLst
        rw [ha]
        show Rs.bind (mkO _ A9) _ = _
        rw [mkO_eq c9.wf]
        show (match seqD (.obj A9.nx) _ with | some _ => Rs.ok (Iz.lst A9.nx) _ | none => .no) = _
        rw [seqD_lst g10]
      have ithings := hlst _ hthings
      have G6 := (k7.trans (k8.trans (k9.trans k10))).get g6
      have G8 := (k9.trans k10).get g8
      generalize hB : A9.add (.lst 0 [.tup true [], .int 5, .str [45], .tup true [.int 0, .int 0, tDrop], .tup true [.int 0, .int 1, .tup true [.str [100, 114, 111, 112]]], .obj p6, .bl true, .obj A7.nx, .tup true [.tup true [], .tup true []]]) = B at c10 g10 ithings G6 G8
      generalize A9.nx = pB at g10 ithings
      generalize A7.nx = p8 at g10 G8
      have lB := l3.trans c10
      have bads : ∀ S', Le B S' → ∀ x ∈ [D.tup true [], .int 5, .str [45], .tup true [.int 0, .int 0, tDrop], .tup true [.int 0, .int 1, .tup true [.str [100, 114, 111, 112]]], .obj p6, .bl true, .obj p8, .tup true [.tup true [], .tup true []]], Bad S' x := fun S' lB' x hx => by
        simp only [List.mem_cons, List.not_mem_nil, or_false] at hx
        rcases hx with rfl | rfl | rfl | rfl | rfl | rfl | rfl | rfl | rfl
        · exact bad_flat (by simp [Sma, Smas]) (fun e => by cases e) rfl rfl
        · exact bad_flat (by simp [Sma]) (fun e => by cases e) rfl rfl
        · exact bad_flat (by simp [Sma, big]) (fun e => by cases e) rfl rfl
        · exact bad_flat (by simp [Sma, Smas, tDrop, big]) (fun e => by cases e) (by decide +kernel) rfl
        · exact bad_flat (by simp [Sma, Smas, big]) (fun e => by cases e) (by decide +kernel) rfl
        · exact bad_obj (lk_lst (lB'.get G6))
        · exact bad_flat (by simp [Sma]) (fun e => by cases e) rfl rfl
        · exact bad_obj (lk_dic (lB'.get G8))
        · exact bad_flat (by simp [Sma, Smas]) (fun e => by cases e) rfl rfl
      have key2 := for_inv (c := cal (n + 10)) (z := .lst pB) (g := gN 5) (b := (sSeq (sIf (tNot' (tOf (eCall 310 [] (aCons (eVar 5) aNil)))) (sSeq (sRet (eC (.bl false))) sNil) sNil) sNil)) (xs := [.tup true [], .int 5, .str [45], .tup true [.int 0, .int 0, tDrop], .tup true [.int 0, .int 1, .tup true [.str [100, 114, 111, 112]]], .obj p6, .bl true, .obj p8, .tup true [.tup true [], .tup true []]]) (fun i env S' => (∃ o5, env = [some (.obj p), o1, o2, o3, o4, o5]) ∧ Le B S') (fun _ => False) (fun i env S' h => by unfold Iz.at; dsimp only; rw [seqD_lst (h.2.get g10)]) (fun i hi env S' hI => by
          obtain ⟨⟨o5, rfl⟩, lI⟩ := hI
          generalize hx : [D.tup true [], .int 5, .str [45], .tup true [.int 0, .int 0, tDrop], .tup true [.int 0, .int 1, .tup true [.str [100, 114, 111, 112]]], .obj p6, .bl true, .obj p8, .tup true [.tup true [], .tup true []]][i]'hi = x
          have hm := bads S' lI x (by rw [← hx]; exact List.getElem_mem hi)
          refine ⟨[some (.obj p), o1, o2, o3, o4, some x], S', rfl, .inl ?_⟩
          obtain ⟨S5, e5, l5⟩ := (ps_ifn (c := cal (n + 10)) (env := [some (.obj p), o1, o2, o3, o4, some x]) (S := S') (k := false) (q := sNil) (a := sSeq (sRet (eC (.bl false))) sNil) (r := .nx [some (.obj p), o1, o2, o3, o4, some x]) (pt_not (pt_of (pv_call (a := aCons (eVar 5) aNil) (pa_c (pv_var rfl) pa_n) (v_law_refused (n := n + 2) hm)))) (fun h => by cases h) fun _ => ps_nil) S' (.refl lI.wf)
          exact ⟨_, S5, .inl e5, ⟨_, rfl⟩, lI.trans l5⟩) (Iz.fuel (.lst pB) B) 0 [some (.obj p), o1, o2, o3, o4, none] B ⟨⟨_, rfl⟩, .refl c10.wf⟩ (by
          unfold Iz.fuel
          dsimp only
          rw [seqD_lst g10]
          show 9 < 9 + 1 + 0
          decide) (Nat.zero_le _)
      rcases key2 with ⟨env4, S4, e4, ⟨o5, rfl⟩, l4⟩ | ⟨h, _⟩
      · have fin : Ps (cal (n + 10)) [some (.obj p), o1, o2, o3, o4, o5] S4 (sSeq (sIf (tNot' (tOf (eCall 312 [] aNil))) (sSeq (sRet (eC (.bl false))) sNil) sNil) (sSeq (sRet (eAnd (eBin dEq (eCall 168 [] (aCons (eC (.str [])) aNil)) (eLst aNil)) (eAnd (eBin dEq (eCall 157 [] (aCons (eLst aNil) aNil)) (eC (.str []))) (eAnd (eBin dIs (eCall 166 [] (aCons (eC (.str [45])) aNil)) (eC .non)) (eBin dEq (eCall 156 [] (aCons (eC .non) aNil)) (eC (.str [45]))))))) sNil)) (.rt (.bl true)) := by
          refine ps_ifn (k := false) (pt_not (pt_of (pv_call pa_n (v_law_signs (n := n))))) (fun h => by cases h) fun _ => ps_fin ?_
          have q1 : Fl (cal (n + 10)) 168 [.str []] S4 [] := v_read_row (n := n + 2) (by decide) (fun a h => by cases h) (fun q h => by cases h) fun i a b h => by cases h
          have q2 : ∀ S5, Fv (cal (n + 10)) 166 [.str [45]] S5 .non := fun S5 => v_read_ask (n := n + 3) (by decide) (by decide) rfl
          refine (pv_and (x := true) (y := true) (pv_eqll (pl_call (pa_c pv_c pa_n) q1) (pl_lst pa_n (of_decide_eq_true rfl)) (fun x h => by cases h) (fun x h => by cases h) (fun x h => by cases h) fun x h => by cases h) fun _ => (pv_and (x := true) (y := true) (pv_bin (pv_calll (pl_lst pa_n (of_decide_eq_true rfl)) fun q S5 l5 g5 => v_show_row (n := n + 3) g5 (fun r h => by cases h) (by decide)) pv_c fun _ => eq_same) fun _ =>
            (pv_and (x := true) (y := true) (pv_bin (pv_call (pa_c pv_c pa_n) (q2 S4)) pv_c fun _ => rfl) fun _ => pv_bin (pv_call (pa_c pv_c pa_n) (v_show_ask_non (n := n + 9))) pv_c fun _ => eq_same).to rfl).to rfl).to rfl
        obtain ⟨S5, e5, l5⟩ := fin S4 (.refl l4.wf)
        refine ⟨S5, ?_, l3.trans (c10.trans (l4.trans l5))⟩
        exact (sSeq_run ((run_for (run_enm e2 g2)).trans e3)).trans ((sSeq_run ((run_for ithings).trans e4)).trans e5)
      · exact h.elim
    · exact h.elim
  · obtain ⟨⟨o1, o2, o3, o4, rfl⟩, l3, g3⟩ := hI
    have hi2 : i < cs.length := by rw [hlm] at hi; exact hi
    have hx : (enmL (cs.map D.int))[i]'hi = .tup true [.int (.ofNat i), .int cs[i]] := by
      rw [enmL_get (xs := cs.map D.int) (by rw [List.length_map]; exact hi2) hi, List.getElem_map]
    refine ⟨[some (.obj p), some (.int (i : Int)), some (.int cs[i]), o3, o4, none], S', by rw [hx]; rfl, .inl ?_⟩
    obtain ⟨pL, S4, e4, l4, g4, n4⟩ := (pl_vvl (c := cal (n + 10)) (env := [some (.obj p), some (.int (i : Int)), some (.int cs[i]), o3, o4, none]) (S := S') (j := 301) (a := eVar 2) (b := eVar 1) (pv_var rfl) (pv_var rfl) pl_sizes fun q S5 l5 g5 => v_law_digits (n := n + 9) (cell := cs[i]) (turn := (i : Int)) g5 dgA_pos (by omega) (by decide)) S' (.refl l3.wf)
    have hL := digs_dig (cell := cs[i]) (turn := (i : Int)) (zs := dgA) fun z hz => (dgA_pos z hz).1
    generalize digs cs[i] (i : Int) dgA = L at g4 hL
    obtain ⟨pM, S5, e5, l5, g5, n5⟩ := (pl_vvl (c := cal (n + 10)) (env := [some (.obj p), some (.int (i : Int)), some (.int cs[i]), some (.obj pL), o4, none]) (S := S4) (j := 301) (a := eVar 2) (b := eBin dAdd (eVar 1) (eC (.int (50)))) (e := (eLst (aCons (eC (.int (5))) (aCons (eC (.int (5))) (aCons (eC (.int (7))) (aCons (eC (.int (4))) (aCons (eC (.int (4))) (aCons (eC (.int (4))) (aCons (eC (.int (4))) (aCons (eC (.int (9))) (aCons (eC (.int (7))) (aCons (eC (.int (7))) (aCons (eC (.int (7))) (aCons (eC (.int (7))) (aCons (eC (.int (5))) (aCons (eC (.int (31))) aNil)))))))))))))))) (xs := staZ.map .int) (pv_var rfl) (pv_addi (pv_var rfl) pv_c) (pl_lst (pa_c pv_c (pa_c pv_c (pa_c pv_c (pa_c pv_c (pa_c pv_c (pa_c pv_c (pa_c pv_c (pa_c pv_c (pa_c pv_c (pa_c pv_c (pa_c pv_c (pa_c pv_c (pa_c pv_c (pa_c pv_c pa_n)))))))))))))) (of_decide_eq_true rfl))
      fun q S6 l6 g6 => v_law_digits (n := n + 9) (cell := cs[i]) (turn := (i : Int) + 50) g6 staZ_pos (by omega) (by decide)) S4 (.refl l4.wf)
    have hM := digs_dig (cell := cs[i]) (turn := (i : Int) + 50) (zs := staZ) fun z hz => (staZ_pos z hz).1
    generalize digs cs[i] ((i : Int) + 50) staZ = M at g5 hM
    obtain ⟨S6, e6, l6⟩ := (ps_ifn (c := cal (n + 10)) (env := [some (.obj p), some (.int (i : Int)), some (.int cs[i]), some (.obj pL), some (.obj pM), none]) (S := S5) (k := false) (q := sNil) (a := sSeq (sRet (eC (.bl false))) sNil) (r := .nx [some (.obj p), some (.int (i : Int)), some (.int cs[i]), some (.obj pL), some (.obj pM), none]) (pt_not (pt_of (v_cell (n := n) (l5.get g4) g5 hL hM _ _))) (fun h => by cases h) fun _ => ps_nil) S5 (.refl l5.wf)
    exact ⟨_, S6, .inl ((sSeq_run (run_setl e4)).trans ((sSeq_run (run_setl e5)).trans e6)), ⟨_, _, _, _, rfl⟩, l3.trans (l4.trans (l5.trans l6)), (l4.trans (l5.trans l6)).get g3⟩
  · show _ < Iz.fuel (.enm pc) S2 + 0
    unfold Iz.fuel
    dsimp only
    rw [seqD_lst g2, hlm]
    show cs.length < (cs.map D.int).length + 1 + 0
    rw [List.length_map]
    omega
theorem S0_wf (ns : List Int) : Wf (S0 ns) := fun p o h => by
  obtain ⟨rfl, rfl⟩ := S0_some h
  exact (by decide : (1 : Nat) < 2)
theorem law_true (ns : List Int) (hl : ns.length ≤ 63) : ∃ S', cal 11 313 [.obj .H] (S0 ns) = .ok (.bl true) S' := by
  obtain ⟨S', e, _⟩ := v_law (n := 0) (S0_get ns) hl (S0 ns) (.refl (S0_wf ns))
  exact ⟨S', e⟩
end
end Ev
set_option maxRecDepth 100000 in
set_option maxHeartbeats 0 in
theorem PySem.Challenge.cw_trueheads_k71_texts_written_and_read_holds : PySem.Challenge.rw_trueheads_k71_texts_written_and_read.Holds := by
  exact Ev.row_holds 10 (by decide) fun ns hl _ => Ev.law_true ns hl
