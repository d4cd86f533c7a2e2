import PyProof.Rows.All
import Wide.All
import OpenK.AllK
import Wide.FinOn
import PySem.Challenge.RW_uf060003_03
set_option Elab.async false
set_option maxRecDepth 100000
set_option maxHeartbeats 8000000


set_option Elab.async false
set_option genSizeOf false
namespace Mine
open PySem PySem.W PyProof.Rows

/-! ## abstract values, heap, computations -/
inductive V where
  | none : V
  | bool (b : Bool) : V
  | int (i : Int) : V
  | str (s : String) : V
  | tup (xs : List V) : V
  | ref (i : Nat) : V
  | inst (c : String) (i : Nat) : V
  | exc (c : String) : V
  | scr : V

inductive O where
  | list (xs : List V)
  | dict (es : List (Int × V))
  | flds (fs : List (String × V))

abbrev Hp := List O
abbrev Loc := String → Option V
def upd (l : Loc) (x : String) (v : V) : Loc := fun y => if y = x then some v else l y
structure S where
  l : Loc
  H : Hp

inductive Res (σ α : Type) where
  | ok (a : α) (s : σ)
  | exc (c : String) (s : σ)
  | stuck

abbrev Cm (α : Type) := S → Res S α
def Cm.bnd {α β : Type} (m : Cm α) (f : α → Cm β) : Cm β := fun s => match m s with
  | .ok a s' => f a s'
  | .exc c s' => .exc c s'
  | .stuck => .stuck
def Cm.pur {α : Type} (a : α) : Cm α := fun s => .ok a s
def Cm.stk {α : Type} : Cm α := fun _ => .stuck
abbrev Fc := List V → Hp → Res Hp V

inductive Fl where
  | next
  | ret (v : V)

/-! ## the relation with the machine -/
structure Cx where
  prog : Program
  w : World
  K : Frag
  hB : Heap
  os : OsState
  mg : Str → Option Value
  mb : Str → Option Value
  cls : String → Option Addr
  xcl : String → Option Addr
  sa : Addr
  sv : List Value
  sn : List Int
abbrev Cx.M (G : Cx) : Model := model G.prog G.w

structure CxOk (G : Cx) : Prop where
  X : G.K.In G.hB
  g : G.hB.Ns mainGlobals G.mg
  b : G.hB.Ns builtinsNs G.mb
  bt : ∀ x : Str, x ≠ "__name__" → G.mb x = bootBuiltins x
  lim : G.hB.NoLimit
  seer : G.hB.NoSeer
  tree : G.prog.given.tree = none
  scr : G.hB.IsList G.sa G.sv.toArray
  isInts : IntsAre G.sv G.sn
  short : G.sn.length ≤ 63

mutual
def VRel (G : Cx) (ι : List Addr) (h : Heap) : V → Value → Prop
  | .none, cv => cv = .none
  | .bool b, cv => cv = .bool b
  | .int i, cv => ∃ t, cv = .int i t
  | .str x, cv => ∃ t, cv = .str (Str.ofString x) t
  | .ref i, cv => ∃ a, ι[i]? = some a ∧ cv = .ref a
  | .inst c i, cv => ∃ a x C o, ι[i]? = some a ∧ G.cls c = some C ∧ cv = .ref x ∧ h.get? x = some o ∧ o.cls = .ref C ∧ o.dict = some a ∧ o.data = .plain
  | .exc c, cv => ∃ x C o, G.xcl c = some C ∧ cv = .ref x ∧ h.get? x = some o ∧ o.cls = .ref C ∧ ∃ vs, o.data = .fields vs
  | .scr, cv => cv = .ref G.sa
  | .tup xs, cv => ∃ a vs, cv = .ref a ∧ IsTup h a vs.toArray ∧ VRels G ι h xs vs
def VRels (G : Cx) (ι : List Addr) (h : Heap) : List V → List Value → Prop
  | [], vs => vs = []
  | x :: xs, vs => ∃ v vs', vs = v :: vs' ∧ VRel G ι h x v ∧ VRels G ι h xs vs'
end

def DRel (G : Cx) (ι : List Addr) (h : Heap) : List (Int × V) → List (Int × Value) → Prop
  | [], vs => vs = []
  | x :: xs, vs => ∃ v vs', vs = (x.1, v) :: vs' ∧ VRel G ι h x.2 v ∧ DRel G ι h xs vs'
def FRel (G : Cx) (ι : List Addr) (h : Heap) : List (String × V) → List DictEntry → Prop
  | [], es => es = []
  | x :: xs, es => ∃ t v es', es = ⟨PyData.keyHash G.w.params (Str.ofString x.1), .str (Str.ofString x.1) t, v⟩ :: es' ∧ VRel G ι h x.2 v ∧ FRel G ι h xs es'

def ORel (G : Cx) (ι : List Addr) (h : Heap) (a : Addr) : O → Prop
  | .list xs => ∃ vs : List Value, h.PlainList a vs.toArray ∧ VRels G ι h xs vs
  | .dict es => ∃ kvs, h.DictOf (intKind G.prog G.w) a kvs ∧ DRel G ι h es kvs
  | .flds fs => ∃ es n, h.get? a = some (dictOf es n) ∧ FRel G ι h fs es

structure StOk (G : Cx) (ι : List Addr) (H : Hp) (h : Heap) : Prop where
  keep : G.hB.StaysIn h
  len : ι.length = H.length
  nodup : ι.Nodup
  fresh : ∀ a ∈ ι, G.hB.get? a = none
  obj : ∀ (i : Nat) (a : Addr) (o : O), ι[i]? = some a → H[i]? = some o → ORel G ι h a o

def own (env : Env) : List Addr := env.locals :: env.cells.map (·.2)

structure FrOk (G : Cx) (env : Env) (l : Loc) (ι : List Addr) (hv hl : Heap) : Prop where
  kind : env.scope.kind = .function
  glob : env.globals = mainGlobals
  blt : env.builtins = builtinsNs
  loc : ∃ m, hl.Ns env.locals m ∧ ∀ x v, l x = some v → env.kindOf (Str.ofString x) = some .local → ∃ cv, m (Str.ofString x) = some cv ∧ VRel G ι hv v cv
  cel : ∀ x v, l x = some v → (env.kindOf (Str.ofString x) = some .cell ∨ env.kindOf (Str.ofString x) = some .free) →
    ∃ c o cv, env.cells.lookup (Str.ofString x) = some c ∧ hv.get? c = some o ∧ o.data = .cell (some cv) ∧ VRel G ι hv v cv
  cells : ∀ p ∈ env.cells, ∃ o ov, hv.get? p.2 = some o ∧ o.data = .cell ov
  ndup : (env.cells.map (·.2)).Nodup
  dis : ∀ a ∈ own env, a ∉ ι
  fresh : ∀ a ∈ own env, G.hB.get? a = none

/-- mutable things: lists, dicts (frames too), cells -/
def Mut (o : Obj) : Prop := (∃ n, o.cls = .type n ∧ n ≠ "tuple") ∨ (∃ es n, o.data = .dict es n) ∨ ∃ v, o.data = .cell v

def Dom (h h' : Heap) : Prop := ∀ a o, h.get? a = some o → ∃ o', h'.get? a = some o'
theorem Dom.refl (h : Heap) : Dom h h := fun _ o e => ⟨o, e⟩
theorem Dom.trans {h h' h'' : Heap} (x : Dom h h') (y : Dom h' h'') : Dom h h'' := fun a o e => let ⟨o', e'⟩ := x a o e; y a o' e'
theorem Dom.of_stays {h h' : Heap} (k : h.StaysIn h') : Dom h h' := fun _ o e => ⟨o, k _ o e⟩
/-- what is outside W stays: exactly, or, for frames, up to their slots -/
structure Kp (W fr : List Addr) (h h' : Heap) : Prop where
  size : Dom h h'
  up : ∀ a o, h.get? a = some o → a ∉ W → ∃ sl, h'.get? a = some { o with slots := sl }
  ex : ∀ a o, h.get? a = some o → a ∉ W → a ∉ fr → h'.get? a = some o

/-- what the values need: the things that never change -/
def Imm (h h' : Heap) : Prop := ∀ a o, h.get? a = some o → ¬ Mut o → ∃ sl, h'.get? a = some { o with slots := sl }

def frs (A : Around) : List Addr := (A.frames.getD []).filterMap (·.frame)

theorem Imm.refl (h : Heap) : Imm h h := fun _ o e _ => ⟨o.slots, e⟩
theorem Imm.of_stays {h h' : Heap} (k : h.StaysIn h') : Imm h h' := fun _ o e _ => ⟨o.slots, k _ o e⟩

section
variable {G : Cx} {ι ι' : List Addr} {h h' : Heap}
theorem getElem?_prefix {α : Type} {l l' : List α} (p : l <+: l') {i : Nat} {a : α} (e : l[i]? = some a) : l'[i]? = some a := by
  obtain ⟨t, rfl⟩ := p
  rw [List.getElem?_append_left (List.getElem?_eq_some_iff.mp e).1]; exact e

mutual
theorem VRel.mono (p : ι <+: ι') (k : Imm h h') : ∀ {v : V} {cv : Value}, VRel G ι h v cv → VRel G ι' h' v cv
  | .none, _, x => x
  | .bool _, _, x => x
  | .int _, _, x => x
  | .str _, _, x => x
  | .scr, _, x => x
  | .ref _, _, ⟨a, e, q⟩ => ⟨a, getElem?_prefix p e, q⟩
  | .inst _ _, _, ⟨a, x, C, o, e, hc, q, ho, oc, od, oda⟩ => by
    obtain ⟨sl, hs⟩ := k x o ho (by rintro (⟨n, q, q2⟩ | ⟨es, n, q⟩ | ⟨v, q⟩) <;> simp_all)
    exact ⟨a, x, C, _, getElem?_prefix p e, hc, q, hs, oc, od, oda⟩
  | .exc _, _, ⟨x, C, o, hc, q, ho, oc, vs, od⟩ => by
    obtain ⟨sl, hs⟩ := k x o ho (by rintro (⟨n, q, q2⟩ | ⟨es, n, q⟩ | ⟨v, q⟩) <;> simp_all)
    exact ⟨x, C, _, hc, q, hs, oc, vs, od⟩
  | .tup _, _, ⟨a, vs, q, ⟨o, ho, oc, n, od⟩, hs⟩ => by
    obtain ⟨sl, h2⟩ := k a o ho (by rintro (⟨n, q, q2⟩ | ⟨es, n, q⟩ | ⟨v, q⟩) <;> simp_all)
    exact ⟨a, vs, q, ⟨_, h2, oc, n, od⟩, VRels.mono p k hs⟩
theorem VRels.mono (p : ι <+: ι') (k : Imm h h') : ∀ {vs : List V} {cvs : List Value}, VRels G ι h vs cvs → VRels G ι' h' vs cvs
  | [], _, x => x
  | _ :: _, _, ⟨v, vs', q, a, b⟩ => ⟨v, vs', q, VRel.mono p k a, VRels.mono p k b⟩
end

theorem vNone : VRel G ι h .none .none := rfl
theorem vBool (b : Bool) : VRel G ι h (.bool b) (.bool b) := rfl
theorem vInt (i : Int) (t : Tok) : VRel G ι h (.int i) (.int i t) := ⟨t, rfl⟩
theorem vNil : VRels G ι h [] [] := rfl
theorem vCons {v : V} {cv : Value} {vs : List V} {cvs : List Value} (a : VRel G ι h v cv) (b : VRels G ι h vs cvs) : VRels G ι h (v :: vs) (cv :: cvs) := ⟨cv, cvs, rfl, a, b⟩

theorem DRel.mono (p : ι <+: ι') (k : Imm h h') : ∀ {vs : List (Int × V)} {cvs : List (Int × Value)}, DRel G ι h vs cvs → DRel G ι' h' vs cvs
  | [], _, x => x
  | _ :: _, _, ⟨v, vs', q, a, b⟩ => ⟨v, vs', q, a.mono p k, DRel.mono p k b⟩
theorem FRel.mono (p : ι <+: ι') (k : Imm h h') : ∀ {vs : List (String × V)} {cvs : List DictEntry}, FRel G ι h vs cvs → FRel G ι' h' vs cvs
  | [], _, x => x
  | _ :: _, _, ⟨t, v, vs', q, a, b⟩ => ⟨t, v, vs', q, a.mono p k, FRel.mono p k b⟩
theorem VRels.length : ∀ {vs : List V} {cvs : List Value}, VRels G ι h vs cvs → cvs.length = vs.length
  | [], _, x => by rw [show _ = _ from x]; rfl
  | _ :: _, _, ⟨_, _, q, _, b⟩ => by rw [q, List.length_cons, List.length_cons, VRels.length b]
theorem VRels.get : ∀ {vs : List V} {cvs : List Value}, VRels G ι h vs cvs → ∀ {i : Nat} {v : V}, vs[i]? = some v → ∃ cv, cvs[i]? = some cv ∧ VRel G ι h v cv
  | [], _, _, _, _, e => by simp at e
  | x :: xs, _, ⟨v, vs', q, a, b⟩, i, w, e => by
    subst q
    cases i with
    | zero => simp at e; subst e; exact ⟨v, rfl, a⟩
    | succ i => simpa using VRels.get b (by simpa using e)
theorem VRels.append : ∀ {vs : List V} {cvs : List Value}, VRels G ι h vs cvs → ∀ {ws : List V} {cws : List Value}, VRels G ι h ws cws → VRels G ι h (vs ++ ws) (cvs ++ cws)
  | [], _, x, _, _, y => by rw [show _ = [] from x]; exact y
  | _ :: _, _, ⟨v, vs', q, a, b⟩, _, _, y => by subst q; exact ⟨v, _, rfl, a, VRels.append b y⟩
theorem VRels.set : ∀ {vs : List V} {cvs : List Value}, VRels G ι h vs cvs → ∀ (i : Nat) {w : V} {cw : Value}, VRel G ι h w cw → VRels G ι h (vs.set i w) (cvs.set i cw)
  | [], _, x, _, _, _, _ => by rw [show _ = [] from x]; rfl
  | _ :: _, _, ⟨v, vs', q, a, b⟩, 0, _, _, y => by subst q; exact ⟨_, _, rfl, y, b⟩
  | _ :: _, _, ⟨v, vs', q, a, b⟩, i + 1, _, _, y => by subst q; exact ⟨_, _, rfl, a, VRels.set b i y⟩
theorem VRels.take : ∀ {vs : List V} {cvs : List Value}, VRels G ι h vs cvs → ∀ (n : Nat), VRels G ι h (vs.take n) (cvs.take n)
  | [], _, x, n => by rw [show _ = [] from x]; simp [VRels]
  | _ :: _, _, ⟨v, vs', q, a, b⟩, 0 => by simp [VRels]
  | _ :: _, _, ⟨v, vs', q, a, b⟩, n + 1 => by subst q; exact ⟨_, _, rfl, a, VRels.take b n⟩
theorem VRels.drop : ∀ {vs : List V} {cvs : List Value}, VRels G ι h vs cvs → ∀ (n : Nat), VRels G ι h (vs.drop n) (cvs.drop n)
  | [], _, x, n => by rw [show _ = [] from x]; simp [VRels]
  | _ :: _, _, ⟨v, vs', q, a, b⟩, 0 => ⟨v, vs', q, a, b⟩
  | _ :: _, _, ⟨v, vs', q, a, b⟩, n + 1 => by subst q; exact VRels.drop b n
end
end Mine

set_option Elab.async false
namespace Mine
open PySem PySem.W PyProof.Rows

def FsOk (G : Cx) (fs : List Env) (ι : List Addr) (h : Heap) : Prop :=
  ∀ env ∈ fs, env.scope.kind ≠ .module ∧ ∃ L o, env.frame = some L ∧ h.get? L = some o ∧ (∃ es n, o.data = .dict es n) ∧ L ∉ ι ∧ G.hB.get? L = none

structure ROk (hq : Bool) (k : Nat) (A : Around) : Prop where
  hd : hq = true → A.handled = none
  depth : A.depth + 3 * k ≤ 800
  units : A.units + 50 * k ≤ 9000

structure AOk (hq : Bool) (k : Nat) (A : Around) (env : Env) : Prop extends ROk hq k A where
  fr : ∃ fenv rest, A.frames = some (fenv :: rest) ∧ fenv.frame = env.frame ∧ fenv.scope.isGenerator = false ∧ fenv.scope.isCoroutine = false ∧ fenv.builtins = builtinsNs ∧ fenv.globals = mainGlobals

structure Rel (G : Cx) (A : Around) (env : Env) (ι : List Addr) (q : S) (s : Shared) : Prop where
  st : StOk G ι q.H s.heap
  fr : FrOk G env q.l ι s.heap s.heap
  fs : FsOk G (A.frames.getD []) ι s.heap
  gens : s.gens = #[]
  os : s.os = G.os

structure Post (G : Cx) (A : Around) (env : Env) (ι : List Addr) (s : Shared) (ι' : List Addr) (q' : S) (s' : Shared) : Prop where
  pre : ι <+: ι'
  rel : Rel G A env ι' q' s'
  kp : Kp (own env ++ ι) (frs A) s.heap s'.heap
  new : ∀ a ∈ ι', a ∈ ι ∨ s.heap.get? a = none

/-- an exception on its way: just made, come in from a callee, or noted in this frame -/
def Flight (B : Heap) (fs : List Env) (L e : Addr) (C : Value) (h : Heap) : Prop :=
  B.StaysIn h ∧ B.get? e = none ∧ h.FunFrames B fs ∧ ∃ oe vs a0, h.get? e = some oe ∧ oe.cls = C ∧ oe.data = .fields vs ∧ vs[0]? = some a0 ∧
    (vs[1]? = some .none ∨ ∃ T oT ts fl, vs[1]? = some (.ref T) ∧ B.get? T = none ∧ T ≠ e ∧ h.get? T = some oT ∧ oT.data = .fields ts ∧ ts[3]? = some fl ∧ (fl = .none ∨ fl = rawInt L))

structure XPost (G : Cx) (A : Around) (env : Env) (ι : List Addr) (s : Shared) (c : String) (ι' : List Addr) (q' : S) (s' : Shared) (ev : Value) : Prop where
  pre : ι <+: ι'
  ex : ∃ e C B L, ev = .ref e ∧ G.xcl c = some C ∧ env.frame = some L ∧ Flight B (A.frames.getD []) L e (.ref C) s'.heap ∧ StOk G ι' q'.H B ∧ FrOk G env q'.l ι' B s'.heap ∧
    FsOk G (A.frames.getD []) ι' s'.heap ∧
    (∀ a o, s.heap.get? a = some o → a ∉ own env ++ ι → a ∉ frs A → B.get? a = some o)
  size : Dom s.heap s'.heap
  up : ∀ a o, s.heap.get? a = some o → a ∉ own env ++ ι → ∃ sl, s'.heap.get? a = some { o with slots := sl }
  new : ∀ a ∈ ι', a ∈ ι ∨ s.heap.get? a = none
  gens : s'.gens = #[]
  os : s'.os = G.os

abbrev PT (β : Type) := (β → Shared → Prop) → (Value → Shared → Prop) → Shared → Prop
abbrev wpT {β : Type} (G : Cx) (A : Around) (t : Sem β) : PT β := fun Q E s => wpAny G.M A t Q E s

def Sat (G : Cx) (A : Around) (env : Env) (ι : List Addr) (s : Shared) {α β : Type} (r : Res S α) (REL : List Addr → Heap → α → β → Prop) (T : PT β) : Prop :=
  match r with
  | .ok a q' => ∀ Q E, (∀ ι' b s', Post G A env ι s ι' q' s' → REL ι' s'.heap a b → Q b s') → T Q E s
  | .exc c q' => ∀ Q E, (∀ ι' ev s', XPost G A env ι s c ι' q' s' ev → E ev s') → T Q E s
  | .stuck => True

def Fin (G : Cx) (A : Around) (env : Env) (ι : List Addr) (s : Shared) {α β : Type} (r : Res S α) (REL : List Addr → Heap → α → β → Prop) (Q : β → Shared → Prop) (E : Value → Shared → Prop) : Prop :=
  match r with
  | .ok a q'' => ∀ ι'' b s'', Post G A env ι s ι'' q'' s'' → REL ι'' s''.heap a b → Q b s''
  | .exc c q'' => ∀ ι'' ev s'', XPost G A env ι s c ι'' q'' s'' ev → E ev s''
  | .stuck => False

def Sem.Is (G : Cx) (hq : Bool) (k : Nat) (env : Env) {α β : Type} (T : Around → PT β) (m : Cm α) (REL : List Addr → Heap → α → β → Prop) : Prop :=
  ∀ A ι q s, AOk hq k A env → Rel G A env ι q s → Sat G A env ι s (m q) REL (T A)

abbrev Ev (G : Cx) (hq : Bool) (k : Nat) (env : Env) (e : Expr) (m : Cm V) : Prop := Sem.Is G hq k env (fun A => wpT G A (eval e env)) m (VRel G)
abbrev Tr (G : Cx) (hq : Bool) (k : Nat) (env : Env) (e : Expr) (m : Cm Bool) : Prop := Sem.Is G hq k env (fun A => wpT G A (isTrue e env (eval e env))) m (fun _ _ a b => a = b)
def FlRel (G : Cx) (ι : List Addr) (h : Heap) : Fl → Flow → Prop
  | .next, f => f = .next
  | .ret v, f => ∃ cv, f = .ret cv ∧ VRel G ι h v cv
abbrev Ex (G : Cx) (hq : Bool) (k : Nat) (env : Env) (st : Stmt) (m : Cm Fl) : Prop := Sem.Is G hq k env (fun A => wpT G A (exec st env)) m (FlRel G)
abbrev Exs (G : Cx) (hq : Bool) (k : Nat) (env : Env) (st : List Stmt) (m : Cm Fl) : Prop := Sem.Is G hq k env (fun A => wpT G A (execs st env)) m (FlRel G)

section
variable {G : Cx} {A : Around} {env : Env} {ι ι' ι'' : List Addr} {q q' q'' : S} {s s' s'' : Shared} {α β γ : Type}

theorem Kp.refl (W fr : List Addr) (h : Heap) : Kp W fr h h := ⟨Dom.refl _, fun _ o e _ => ⟨o.slots, e⟩, fun _ _ e _ _ => e⟩
theorem Kp.of_stays {W fr : List Addr} {h h' : Heap} (k : h.StaysIn h') : Kp W fr h h' := ⟨Dom.of_stays k, fun _ o e _ => ⟨o.slots, k _ o e⟩, fun _ _ e _ _ => k _ _ e⟩

theorem new_trans {a : Addr} {h h' : Heap} (n1 : ∀ a ∈ ι', a ∈ ι ∨ h.get? a = none) (sz : Dom h h') (n2 : ∀ a ∈ ι'', a ∈ ι' ∨ h'.get? a = none) (ha : a ∈ ι'') : a ∈ ι ∨ h.get? a = none :=
  (n2 a ha).elim (n1 a) fun x => .inr (by
    cases e : h.get? a with
    | none => rfl
    | some o => obtain ⟨o', e'⟩ := sz a o e; rw [x] at e'; cases e')
theorem not_W {W : List Addr} {a : Addr} {o : Obj} {h : Heap} (n1 : ∀ a ∈ ι', a ∈ ι ∨ h.get? a = none) (e : h.get? a = some o) (hW : a ∉ W ++ ι) : a ∉ W ++ ι' := fun hm =>
  (List.mem_append.mp hm).elim (fun x => hW (List.mem_append_left _ x)) fun x => (n1 a x).elim (fun y => hW (List.mem_append_right _ y)) fun y => by rw [y] at e; cases e

theorem Kp.trans {W fr : List Addr} {h h' h'' : Heap} (n1 : ∀ a ∈ ι', a ∈ ι ∨ h.get? a = none) (x : Kp (W ++ ι) fr h h') (y : Kp (W ++ ι') fr h' h'') : Kp (W ++ ι) fr h h'' where
  size := x.size.trans y.size
  up := fun a o e hW => by
    obtain ⟨sl, e1⟩ := x.up a o e hW
    obtain ⟨sl2, e2⟩ := y.up a _ e1 (not_W n1 e hW)
    exact ⟨sl2, e2⟩
  ex := fun a o e hW hf => y.ex a o (x.ex a o e hW hf) (not_W n1 e hW) hf

theorem Post.trans (x : Post G A env ι s ι' q' s') (y : Post G A env ι' s' ι'' q'' s'') : Post G A env ι s ι'' q'' s'' where
  pre := x.pre.trans y.pre
  rel := y.rel
  kp := x.kp.trans x.new y.kp
  new := fun _ ha => new_trans x.new x.kp.size y.new ha

theorem Post.transX {c : String} {ev : Value} (x : Post G A env ι s ι' q' s') (y : XPost G A env ι' s' c ι'' q'' s'' ev) : XPost G A env ι s c ι'' q'' s'' ev where
  pre := x.pre.trans y.pre
  ex := by
    obtain ⟨e, C, B, L, h1, h2, h3, h4, h5, h6, h7, h8⟩ := y.ex
    exact ⟨e, C, B, L, h1, h2, h3, h4, h5, h6, h7, fun a o e hW hf => h8 a o (x.kp.ex a o e hW hf) (not_W x.new e hW) hf⟩
  size := x.kp.size.trans y.size
  up := fun a o e hW => by
    obtain ⟨sl, e1⟩ := x.kp.up a o e hW
    obtain ⟨sl2, e2⟩ := y.up a _ e1 (not_W x.new e hW)
    exact ⟨sl2, e2⟩
  new := fun _ ha => new_trans x.new x.kp.size y.new ha
  gens := y.gens
  os := y.os

theorem StOk.mut (x : StOk G ι q.H s.heap) {a : Addr} (ha : a ∈ ι) : ∃ o, s.heap.get? a = some o ∧ Mut o := by
  obtain ⟨i, hi, rfl⟩ := List.mem_iff_getElem.mp ha
  have hi' : i < q.H.length := x.len ▸ hi
  have := x.obj i ι[i] q.H[i] (by simp) (by simp)
  cases ho : q.H[i] with
  | list xs => rw [ho] at this; obtain ⟨vs, ⟨n, e⟩, _⟩ := this; exact ⟨_, e, .inl ⟨"list", rfl, by decide⟩⟩
  | dict es => rw [ho] at this; obtain ⟨kvs, ⟨o, es', ep, e, _, hd, _⟩, _⟩ := this; exact ⟨o, e, .inr (.inl ⟨es', ep, hd⟩)⟩
  | flds fs => rw [ho] at this; obtain ⟨es, n, e, _⟩ := this; exact ⟨_, e, .inr (.inl ⟨_, _, rfl⟩)⟩

theorem FrOk.mut {l : Loc} {hv hl : Heap} (k : ∀ b o, hv.get? b = some o → hl.get? b = some o) (x : FrOk G env l ι hv hl) {a : Addr} (ha : a ∈ own env) : ∃ o, hl.get? a = some o ∧ Mut o := by
  rcases List.mem_cons.mp ha with rfl | ha
  · obtain ⟨m, ⟨o, es, ep, ho, hd, _⟩, _⟩ := x.loc
    exact ⟨o, ho, .inr (.inl ⟨es, ep, hd⟩)⟩
  · obtain ⟨p, hp, rfl⟩ := List.mem_map.mp ha
    obtain ⟨o, ov, ho, hd⟩ := x.cells p hp
    exact ⟨o, k _ _ ho, .inr (.inr ⟨ov, hd⟩)⟩

theorem Rel.imm' (R : Rel G A env ι q s) {h' : Heap} (up : ∀ a o, s.heap.get? a = some o → a ∉ own env ++ ι → ∃ sl, h'.get? a = some { o with slots := sl }) : Imm s.heap h' := fun a o e hm => up a o e fun hW => by
  rcases List.mem_append.mp hW with h | h
  · obtain ⟨o', e', hm'⟩ := R.fr.mut (fun _ _ e => e) h
    rw [e] at e'; cases e'; exact hm hm'
  · obtain ⟨o', e', hm'⟩ := R.st.mut h
    rw [e] at e'; cases e'; exact hm hm'

theorem Rel.imm (R : Rel G A env ι q s) {fr : List Addr} {h' : Heap} (k : Kp (own env ++ ι) fr s.heap h') : Imm s.heap h' := R.imm' k.up
theorem Post.vrel {v : V} {cv : Value} (R : Rel G A env ι q s) (P : Post G A env ι s ι' q' s') (x : VRel G ι s.heap v cv) : VRel G ι' s'.heap v cv := x.mono P.pre (R.imm P.kp)
theorem Sat.mono {r : Res S α} {REL : List Addr → Heap → α → β → Prop} {T : PT β} (P : Post G A env ι s ι' q' s') (h : Sat G A env ι' s' r REL T) {Q : β → Shared → Prop} {E : Value → Shared → Prop}
    (hQ : Fin G A env ι s r REL Q E) : T Q E s' := by
  cases r with
  | ok a q'' => exact h Q E fun ι'' b s'' x y => hQ ι'' b s'' (P.trans x) y
  | exc c q'' => exact h Q E fun ι'' ev s'' x => hQ ι'' ev s'' (P.transX x)
  | stuck => exact hQ.elim

theorem Sat.imp {r : Res S α} {REL : List Addr → Heap → α → β → Prop} {T T' : PT β} (h : Sat G A env ι s r REL T) (k : ∀ Q E, T Q E s → T' Q E s) : Sat G A env ι s r REL T' := by
  cases r with
  | ok a q' => exact fun Q E x => k _ _ (h Q E x)
  | exc c q' => exact fun Q E x => k _ _ (h Q E x)
  | stuck => trivial

theorem Sat.bnd {m : Cm α} {f : α → Cm γ} {β' : Type} {REL : List Addr → Heap → α → β → Prop} {REL' : List Addr → Heap → γ → β' → Prop} {T : PT β} {T' : β → PT β'}
    (h : Sat G A env ι s (m q) REL T)
    (k : ∀ a q' ι' b s', m q = .ok a q' → Post G A env ι s ι' q' s' → REL ι' s'.heap a b → Sat G A env ι' s' (f a q') REL' (T' b)) :
    Sat G A env ι s ((m.bnd f) q) REL' (fun Q E s => T (fun b s₁ => T' b Q E s₁) E s) := by
  unfold Cm.bnd
  cases hm : m q with
  | stuck => trivial
  | exc c q' =>
    rw [hm] at h
    exact fun Q E x => h _ E x
  | ok a q' =>
    rw [hm] at h
    dsimp only
    have k' := k a q'
    cases hf : f a q' with
    | stuck => trivial
    | ok c q'' =>
      intro Q E x
      refine h _ E fun ι' b s' P R => ?_
      have := k' ι' b s' hm P R
      rw [hf] at this
      exact this Q E fun ι'' b' s'' P' R' => x ι'' b' s'' (P.trans P') R'
    | exc c q'' =>
      intro Q E x
      refine h _ E fun ι' b s' P R => ?_
      have := k' ι' b s' hm P R
      rw [hf] at this
      exact this Q E fun ι'' ev s'' P' => x ι'' ev s'' (P.transX P')

theorem bnd_ok {m : Cm α} {f : α → Cm β} {a : α} (e : m q = .ok a q') : (m.bnd f) q = f a q' := by unfold Cm.bnd; rw [e]
theorem bnd_stuck {m : Cm α} {f : α → Cm β} (e : m q = .stuck) : (m.bnd f) q = .stuck := by unfold Cm.bnd; rw [e]
theorem bnd_exc {m : Cm α} {f : α → Cm β} {c : String} (e : m q = .exc c q') : (m.bnd f) q = .exc c q' := by unfold Cm.bnd; rw [e]

theorem Sem.Is.bnd {hq : Bool} {k : Nat} {m : Cm α} {f : α → Cm γ} {β' : Type} {REL : List Addr → Heap → α → β → Prop} {REL' : List Addr → Heap → γ → β' → Prop} {T : Around → PT β} {T' : Around → β → PT β'} {T'' : Around → PT β'}
    (h : Sem.Is G hq k env T m REL)
    (hk : ∀ A a q ι b s, AOk hq k A env → Rel G A env ι q s → REL ι s.heap a b → Sat G A env ι s (f a q) REL' (T' A b))
    (hT : ∀ A Q E s, T A (fun b s₁ => T' A b Q E s₁) E s → T'' A Q E s) : Sem.Is G hq k env T'' (m.bnd f) REL' :=
  fun A ι q s ha hr => (Sat.bnd (T' := T' A) (h A ι q s ha hr) fun a q' ι' b s' _ P R => hk A a q' ι' b s' ha P.rel R).imp fun Q E x => hT A Q E s x

theorem Sem.Is.imp {hq : Bool} {k : Nat} {m : Cm α} {REL : List Addr → Heap → α → β → Prop} {T T' : Around → PT β} (h : Sem.Is G hq k env T m REL) (hT : ∀ A Q E s, T A Q E s → T' A Q E s) : Sem.Is G hq k env T' m REL :=
  fun A ι q s ha hr => (h A ι q s ha hr).imp fun Q E x => hT A Q E s x

theorem nodup_inj {l : List Addr} (hn : l.Nodup) {i j : Nat} {a : Addr} (hi : l[i]? = some a) (hj : l[j]? = some a) : i = j := by
  obtain ⟨h1, e1⟩ := List.getElem?_eq_some_iff.mp hi
  obtain ⟨h2, e2⟩ := List.getElem?_eq_some_iff.mp hj
  have := List.pairwise_iff_getElem.mp hn
  rcases Nat.lt_trichotomy i j with h | h | h
  · exact absurd (e1.trans e2.symm) (this i j h1 h2 h)
  · exact h
  · exact absurd (e2.trans e1.symm) (this j i h2 h1 h)

/-! ### growing and changing the heap -/
theorem ORel.there {h : Heap} {a : Addr} {o : O} (x : ORel G ι h a o) : ∃ o', h.get? a = some o' := by
  cases o with
  | list xs => obtain ⟨vs, ⟨n, e⟩, r⟩ := x; exact ⟨_, e⟩
  | dict es => obtain ⟨kvs, ⟨o, es', ep, e, d⟩, r⟩ := x; exact ⟨_, e⟩
  | flds fs => obtain ⟨es, n, e, r⟩ := x; exact ⟨_, e⟩
theorem ORel.stays {h h' : Heap} {a : Addr} {o : O} (p : ι <+: ι') (k : h.StaysIn h') (x : ORel G ι h a o) : ORel G ι' h' a o := by
  have im := Imm.of_stays k
  cases o with
  | list xs => obtain ⟨vs, ⟨n, e⟩, r⟩ := x; exact ⟨vs, ⟨n, k _ _ e⟩, r.mono p im⟩
  | dict es => obtain ⟨kvs, d, r⟩ := x; exact ⟨kvs, d.keep k, r.mono p im⟩
  | flds fs => obtain ⟨es, n, e, r⟩ := x; exact ⟨es, n, k _ _ e, r.mono p im⟩

/-- an object kept at its own place while the values' things stay -/
theorem ORel.at {h h' : Heap} {a : Addr} {o : O} (p : ι <+: ι') (im : Imm h h') (k : ∀ o, h.get? a = some o → h'.get? a = some o) (x : ORel G ι h a o) : ORel G ι' h' a o := by
  cases o with
  | list xs => obtain ⟨vs, ⟨n, e⟩, r⟩ := x; exact ⟨vs, ⟨n, k _ e⟩, r.mono p im⟩
  | dict es => obtain ⟨kvs, ⟨o, es', ep, e, d⟩, r⟩ := x; exact ⟨kvs, ⟨o, es', ep, k _ e, d⟩, r.mono p im⟩
  | flds fs => obtain ⟨es, n, e, r⟩ := x; exact ⟨es, n, k _ e, r.mono p im⟩

theorem StOk.stays {H : Hp} {h h' : Heap} (x : StOk G ι H h) (k : h.StaysIn h') : StOk G ι H h' where
  keep := fun b o e => k b o (x.keep b o e)
  len := x.len
  nodup := x.nodup
  fresh := x.fresh
  obj := fun i a o e1 e2 => (x.obj i a o e1 e2).stays (List.prefix_refl _) k

theorem FrOk.stays {l : Loc} {hv hl hv' hl' : Heap} (x : FrOk G env l ι hv hl) (k : hv.StaysIn hv') (k' : hl.StaysIn hl') : FrOk G env l ι hv' hl' where
  kind := x.kind
  glob := x.glob
  blt := x.blt
  loc := let ⟨m, hn, hm⟩ := x.loc; ⟨m, hn.keeps k', fun y v e e2 => let ⟨cv, a, b⟩ := hm y v e e2; ⟨cv, a, b.mono (List.prefix_refl _) (.of_stays k)⟩⟩
  cel := fun y v e e2 => let ⟨c, o, cv, a, b, d, f⟩ := x.cel y v e e2; ⟨c, o, cv, a, k _ _ b, d, f.mono (List.prefix_refl _) (.of_stays k)⟩
  cells := fun p hp => let ⟨o, ov, a, b⟩ := x.cells p hp; ⟨o, ov, k _ _ a, b⟩
  ndup := x.ndup
  dis := x.dis
  fresh := x.fresh

theorem FsOk.stays {fs : List Env} {h h' : Heap} (x : FsOk G fs ι h) (k : h.StaysIn h') : FsOk G fs ι h' := fun env he =>
  let ⟨a, L, o, b, c, d⟩ := x env he; ⟨a, L, o, b, k _ _ c, d⟩

theorem Rel.stays (R : Rel G A env ι q s) {h' : Heap} {tk : Nat} (k : s.heap.StaysIn h') : Rel G A env ι q { s with heap := h', toks := tk } where
  st := R.st.stays k
  fr := R.fr.stays k k
  fs := R.fs.stays k
  gens := R.gens
  os := R.os

theorem Post.stays (R : Rel G A env ι q s) {h' : Heap} {tk : Nat} (k : s.heap.StaysIn h') : Post G A env ι s ι q { s with heap := h', toks := tk } where
  pre := List.prefix_refl _
  rel := R.stays k
  kp := .of_stays k
  new := fun _ ha => .inl ha

theorem Post.refl (R : Rel G A env ι q s) : Post G A env ι s ι q s where
  pre := List.prefix_refl _
  rel := R
  kp := .refl _ _ _
  new := fun _ ha => .inl ha
theorem Post.toks (R : Rel G A env ι q s) (tk : Nat) : Post G A env ι s ι q { s with toks := tk } := Post.stays (h' := s.heap) R fun _ _ e => e

theorem Sat.ret {a : α} {b : β} {REL : List Addr → Heap → α → β → Prop} {T : PT β} {tk : Nat} (R : Rel G A env ι q s) (hR : REL ι s.heap a b) (hT : ∀ Q E, Q b { s with toks := tk } → T Q E s) :
    Sat G A env ι s (.ok a q) REL T := fun _ _ x => hT _ _ (x ι b _ (Post.toks R tk) hR)
theorem Sat.ret0 {a : α} {b : β} {REL : List Addr → Heap → α → β → Prop} {T : PT β} (R : Rel G A env ι q s) (hR : REL ι s.heap a b) (hT : ∀ Q E, Q b s → T Q E s) :
    Sat G A env ι s (.ok a q) REL T := fun _ _ x => hT _ _ (x ι b _ (Post.refl R) hR)
/-- the heap only grew -/
theorem Sat.grew {a : α} {b : β} {REL : List Addr → Heap → α → β → Prop} {T : PT β} {h' : Heap} {tk : Nat} (R : Rel G A env ι q s) (k : s.heap.StaysIn h') (hR : REL ι h' a b)
    (hT : ∀ Q E, Q b { s with heap := h', toks := tk } → T Q E s) : Sat G A env ι s (.ok a q) REL T := fun _ _ x => hT _ _ (x ι b _ (Post.stays R k) hR)

theorem Rel.fresh_ne (R : Rel G A env ι q s) {a : Addr} (ha : s.heap.get? a = none) : a ∉ ι ∧ a ∉ own env ∧ G.hB.get? a = none := by
  refine ⟨fun h => ?_, fun h => ?_, ?_⟩
  · obtain ⟨o, e, _⟩ := R.st.mut h; rw [ha] at e; cases e
  · obtain ⟨o, e, _⟩ := R.fr.mut (fun _ _ e => e) h; rw [ha] at e; cases e
  · cases e : G.hB.get? a with
    | none => rfl
    | some o => have := R.st.keep _ _ e; rw [ha] at this; cases this

/-- a new abstract object -/
theorem Post.alloc (R : Rel G A env ι q s) {h' : Heap} {tk : Nat} {a : Addr} {o : O} (k : s.heap.StaysIn h') (ha : s.heap.get? a = none) (ho : ORel G (ι ++ [a]) h' a o) :
    Post G A env ι s (ι ++ [a]) { q with H := q.H ++ [o] } { s with heap := h', toks := tk } := by
  have pre : ι <+: ι ++ [a] := List.prefix_append _ _
  have im := Imm.of_stays k
  obtain ⟨n1, n2, n3⟩ := R.fresh_ne ha
  have R' := R.stays (tk := tk) k
  refine ⟨pre, ⟨⟨R'.st.keep, by simp [R.st.len], ?_, ?_, ?_⟩, ⟨R'.fr.kind, R'.fr.glob, R'.fr.blt, ?_, ?_, R'.fr.cells, R'.fr.ndup, ?_, R'.fr.fresh⟩, ?_, R.gens, R.os⟩, (.of_stays k), ?_⟩
  · exact List.nodup_append.mpr ⟨R.st.nodup, by simp, fun x hx y hy => by simp at hy; subst hy; exact fun e => n1 (e ▸ hx)⟩
  · intro x hx
    rcases List.mem_append.mp hx with h | h
    · exact R.st.fresh x h
    · simp at h; subst h; exact n3
  · intro i x y e1 e2
    by_cases hi : i < ι.length
    · rw [List.getElem?_append_left hi] at e1
      rw [List.getElem?_append_left (R.st.len ▸ hi)] at e2
      exact (R.st.obj i x y e1 e2).stays pre k
    · have hi' : i = ι.length := by
        have := (List.getElem?_eq_some_iff.mp e1).1
        simp at this; omega
      subst hi'
      simp at e1; subst e1
      rw [R.st.len] at e2; simp at e2; subst e2
      exact ho
  · obtain ⟨m, hn, hm⟩ := R.fr.loc
    exact ⟨m, hn.keeps k, fun y v e e2 => let ⟨cv, a, b⟩ := hm y v e e2; ⟨cv, a, b.mono pre im⟩⟩
  · exact fun y v e e2 => let ⟨c, o, cv, a, b, d, f⟩ := R.fr.cel y v e e2; ⟨c, o, cv, a, k _ _ b, d, f.mono pre im⟩
  · intro x hx hm
    rcases List.mem_append.mp hm with h | h
    · exact R.fr.dis x hx h
    · simp at h; subst h; exact n2 hx
  · intro env' he
    obtain ⟨b1, L, o', b2, b3, b4, b5, b6⟩ := R.fs env' he
    refine ⟨b1, L, o', b2, k _ _ b3, b4, fun hm => ?_, b6⟩
    rcases List.mem_append.mp hm with h | h
    · exact b5 h
    · simp at h; subst h; rw [ha] at b3; cases b3
  · intro x hx
    rcases List.mem_append.mp hx with h | h
    · exact .inl h
    · simp at h; subst h; exact .inr ha

theorem Sat.alloc {b : β} {v : α} {REL : List Addr → Heap → α → β → Prop} {T : PT β} {h' : Heap} {tk : Nat} {a : Addr} {o : O} (R : Rel G A env ι q s) (k : s.heap.StaysIn h') (ha : s.heap.get? a = none)
    (ho : ORel G (ι ++ [a]) h' a o) (hR : REL (ι ++ [a]) h' v b) (hT : ∀ Q E, Q b { s with heap := h', toks := tk } → T Q E s) : Sat G A env ι s (.ok v { q with H := q.H ++ [o] }) REL T :=
  fun _ _ x => hT _ _ (x _ b _ (Post.alloc R k ha ho) hR)

/-- an abstract object changed in place -/
theorem Post.set (R : Rel G A env ι q s) {h' : Heap} {tk : Nat} {i : Nat} {a : Addr} {o' : O} (hi : ι[i]? = some a) (hs : Heap.SameBut a s.heap h') (im : Imm s.heap h' → ORel G ι h' a o') :
    Post G A env ι s ι { q with H := q.H.set i o' } { s with heap := h', toks := tk } := by
  have ha : a ∈ ι := List.mem_of_getElem? hi
  obtain ⟨oa, ea, hma⟩ := R.st.mut ha
  have ext := hs.extBut
  have ne : ∀ b o, s.heap.get? b = some o → b ∉ ι → h'.get? b = some o := fun b o e hb => ext b o (fun q => hb (q ▸ ha)) e
  have im' := R.imm' (h' := h') fun b o e hW => ⟨o.slots, ne b o e fun x => hW (List.mem_append_right _ x)⟩
  have im := im im'
  have kp : Kp (own env ++ ι) (frs A) s.heap h' := ⟨fun b o e => by
      by_cases hb : b = a
      · subst hb; exact im.there
      · exact ⟨o, ext b o hb e⟩, fun b o e hW => ⟨o.slots, ne b o e fun x => hW (List.mem_append_right _ x)⟩, fun b o e hW _ => ne b o e fun x => hW (List.mem_append_right _ x)⟩
  have pr : ι <+: ι := List.prefix_refl _
  refine ⟨pr, ⟨⟨?_, by simp [R.st.len], R.st.nodup, R.st.fresh, ?_⟩, ⟨R.fr.kind, R.fr.glob, R.fr.blt, ?_, ?_, ?_, R.fr.ndup, R.fr.dis, R.fr.fresh⟩, ?_, R.gens, R.os⟩, kp, fun _ h => .inl h⟩
  · intro b o e
    exact ext b o (fun q => by rw [q, R.st.fresh a ha] at e; cases e) (R.st.keep b o e)
  · intro j x y e1 e2
    dsimp only at e2
    by_cases hj : i = j
    · subst hj
      rw [hi] at e1; cases e1
      have : i < q.H.length := R.st.len ▸ (List.getElem?_eq_some_iff.mp hi).1
      rw [List.getElem?_set_self this] at e2; cases e2
      exact im
    · rw [List.getElem?_set_ne hj] at e2
      refine (R.st.obj j x y e1 e2).at pr im' fun o e => ext x o (fun q => hj ?_) e
      subst q
      exact nodup_inj R.st.nodup hi e1
  · obtain ⟨m, hn, hm⟩ := R.fr.loc
    have hL : env.locals ≠ a := fun q => R.fr.dis env.locals (.head _) (q ▸ ha)
    exact ⟨m, hn.extBut ext hL, fun y v e e2 => let ⟨cv, a, b⟩ := hm y v e e2; ⟨cv, a, b.mono pr im'⟩⟩
  · intro y v e e2
    obtain ⟨c, o, cv, h1, h2, h3, h4⟩ := R.fr.cel y v e e2
    have hc : c ∈ own env := List.mem_cons_of_mem _ (List.mem_map.mpr ⟨_, mem_of_lookup h1, rfl⟩)
    exact ⟨c, o, cv, h1, ne c o h2 (R.fr.dis c hc), h3, h4.mono pr im'⟩
  · intro p hp
    obtain ⟨o, ov, h1, h2⟩ := R.fr.cells p hp
    exact ⟨o, ov, ne p.2 o h1 (R.fr.dis p.2 (List.mem_cons_of_mem _ (List.mem_map.mpr ⟨p, hp, rfl⟩))), h2⟩
  · intro env' he
    obtain ⟨b1, L, o', b2, b3, b4, b5, b6⟩ := R.fs env' he
    exact ⟨b1, L, o', b2, ne L o' b3 b5, b4, b5, b6⟩
where
  mem_of_lookup {α β : Type} [BEq α] [LawfulBEq α] {x : α} {y : β} : ∀ {l : List (α × β)}, l.lookup x = some y → (x, y) ∈ l
    | [], e => by simp at e
    | (a, b) :: r, e => by
      rw [List.lookup_cons] at e
      split at e
      · rename_i q; cases e; rw [eq_of_beq q]; exact .head _
      · exact .tail _ (mem_of_lookup e)

theorem Sat.set {b : β} {v : α} {REL : List Addr → Heap → α → β → Prop} {T : PT β} {h' : Heap} {tk : Nat} {i : Nat} {a : Addr} {o' : O} (R : Rel G A env ι q s) (hi : ι[i]? = some a) (hs : Heap.SameBut a s.heap h')
    (im : Imm s.heap h' → ORel G ι h' a o') (hR : Imm s.heap h' → REL ι h' v b) (hT : ∀ Q E, Q b { s with heap := h', toks := tk } → T Q E s) : Sat G A env ι s (.ok v { q with H := q.H.set i o' }) REL T := by
  have P := Post.set (tk := tk) R hi hs im
  exact fun _ _ x => hT _ _ (x _ b _ P (hR (R.imm P.kp)))
end
end Mine

set_option Elab.async false
set_option linter.unusedVariables false
namespace Mine
open PySem PySem.W PyProof.Rows

section
variable {G : Cx} {hq : Bool} {k : Nat} {env : Env}

/-! ### names and constants -/
def getV (x : String) : Cm V := fun q => match q.l x with | some v => .ok v q | none => .stuck

theorem E_loc {x : String} {pos : Pos} (hx : env.kindOf (Str.ofString x) = some .local) (hd : (Str.ofString x == ("__debug__" : Str)) = false) : Ev G hq k env (.Name (Str.ofString x) pos) (getV x) := by
  intro A ι q s ha R
  unfold getV
  cases h : q.l x with
  | none => trivial
  | some v =>
    obtain ⟨m, hn, hm⟩ := R.fr.loc
    obtain ⟨cv, h1, h2⟩ := hm x v h hx
    exact Sat.ret0 R h2 fun Q E hQ => wpAny_Name (wpAny_loadName_local R.fr.kind hx hn h1 hQ) hd
theorem E_cell {x : String} {pos : Pos} (hx : env.kindOf (Str.ofString x) = some .cell) (hd : (Str.ofString x == ("__debug__" : Str)) = false) : Ev G hq k env (.Name (Str.ofString x) pos) (getV x) := by
  intro A ι q s ha R
  unfold getV
  cases h : q.l x with
  | none => trivial
  | some v =>
    obtain ⟨c, o, cv, h1, h2, h3, h4⟩ := R.fr.cel x v h (.inl hx)
    exact Sat.ret0 R h4 fun Q E hQ => wpAny_Name (wpAny_loadName_cell R.fr.kind hx h1 ⟨o, h2, h3⟩ hQ) hd
theorem E_int {i : Int} {kk : Nat} {pos : Pos} : Ev G hq k env (.Constant (.int i) kk pos) (.pur (.int i)) :=
  fun _ _ _ _ _ R => Sat.ret R ⟨_, rfl⟩ fun _ _ hQ => wpAny_Constant_int hQ
theorem E_none {kk : Nat} {pos : Pos} : Ev G hq k env (.Constant .none kk pos) (.pur .none) :=
  fun _ _ _ _ _ R => Sat.ret0 R vNone fun _ _ hQ => wpAny_Constant_none hQ
theorem E_bool {b : Bool} {kk : Nat} {pos : Pos} : Ev G hq k env (.Constant (.bool b) kk pos) (.pur (.bool b)) :=
  fun _ _ _ _ _ R => Sat.ret0 R (vBool b) fun _ _ hQ => wpAny_Constant_bool hQ
theorem E_str {x : String} {kk : Nat} {pos : Pos} : Ev G hq k env (.Constant (.str (Str.ofString x)) kk pos) (.pur (.str x)) :=
  fun _ _ _ _ _ R => Sat.ret R ⟨_, rfl⟩ fun _ _ hQ => wpAny_Constant_str hQ

/-- loading a global by its written value, as a step -/
theorem glob_load (C : CxOk G) {A : Around} {ι : List Addr} {q : S} {s : Shared} (R : Rel G A env ι q s) {x : Str} {v : Value} {pos : Pos} (hx : env.kindOf x = some .globalImplicit) (hv : nsIn G.K mainGlobals x = some (some v))
    (hd : (x == ("__debug__" : Str)) = false) {Q : Value → Shared → Prop} {E : Value → Shared → Prop} (h : Q v s) : wpAny G.M A (eval (.Name x pos) env) Q E s :=
  Calls.Name_function_global R.fr.kind hx (Calls.loadGlobal_global (by rw [R.fr.glob]; exact C.g.keeps R.st.keep) (mg_of C.X C.g hv) h) hd
theorem blt_load (C : CxOk G) {A : Around} {ι : List Addr} {q : S} {s : Shared} (R : Rel G A env ι q s) {x : Str} {v : Value} {pos : Pos} (hx : env.kindOf x = some .globalImplicit) (hv : nsIn G.K mainGlobals x = some none)
    (hb : bootBuiltins x = some v) (hn : x ≠ "__name__") (hd : (x == ("__debug__" : Str)) = false) {Q : Value → Shared → Prop} {E : Value → Shared → Prop} (h : Q v s) : wpAny G.M A (eval (.Name x pos) env) Q E s :=
  Calls.Name_function_global R.fr.kind hx (Calls.loadGlobal_builtin (by rw [R.fr.glob]; exact C.g.keeps R.st.keep) (mg_none_of C.X C.g hv)
    (by rw [R.fr.blt]; exact C.b.keeps R.st.keep) ((C.bt x hn).trans hb) h) hd

/-! ### operators -/
abbrev Prim2 (G : Cx) (T : Around → Value → Value → PT Value) (f : V → V → Cm V) : Prop :=
  ∀ A env ι q s a b ca cb, CxOk G → (∃ hq k, AOk hq k A env) → Rel G A env ι q s → VRel G ι s.heap a ca → VRel G ι s.heap b cb → Sat G A env ι s (f a b q) (VRel G) (T A ca cb)

theorem E_bin (C : CxOk G) {l r : Expr} {op : Operator} {pos : Pos} {m1 m2 : Cm V} {f : V → V → Cm V} (h1 : Ev G hq k env l m1) (h2 : Ev G hq k env r m2)
    (hf : Prim2 G (fun A a b => wpT G A (binaryOp op a b)) f) : Ev G hq k env (.BinOp l op r pos) (m1.bnd fun a => m2.bnd fun b => f a b) :=
  fun A ι q s ha R => (Sat.bnd (h1 A ι q s ha R) fun a q' ι' b s' _ P hv => Sat.bnd (T' := fun b' Q E s₂ => wpAny G.M A (binaryOp op b b') Q E s₂) (h2 A ι' q' s' ha P.rel) fun a2 q2 ι2 b2 s2 _ P2 hv2 =>
    hf A env ι2 q2 s2 a a2 b b2 C ⟨_, _, ha⟩ P2.rel (P2.vrel P.rel hv) hv2).imp fun Q E x => wpAny_BinOp x

theorem AOk.pylong (C : CxOk G) {A : Around} {ι : List Addr} {q : S} {s : Shared} (ha : ∃ hq k, AOk hq k A env) (R : Rel G A env ι q s) : PylongRoom G.M A s := by
  obtain ⟨hq, k, ha⟩ := ha
  obtain ⟨fenv, rest, h1, h2, h3, h4, h5, h6⟩ := ha.fr
  refine PylongRoom.of (C.lim.keeps R.st.keep) ?_ (SeerAt.of (C.seer.keeps R.st.keep) C.tree h1 h3 h4 h5 h6)
  have := ha.depth
  have : Builtin.pylongFrames ≤ 150 := by decide
  show A.depth + Builtin.pylongFrames < 1000
  omega

def addV : V → V → Cm V
  | .int i, .int j => .pur (.int (i + j))
  | .str x, .str y => if x.length + y.length ≤ 100000 then .pur (.str (x ++ y)) else .stk
  | .ref i, .ref j => fun q => match q.H[i]?, q.H[j]? with
    | some (.list xs), some (.list ys) => if xs.length + ys.length ≤ 1000000 then .ok (.ref q.H.length) { q with H := q.H ++ [.list (xs ++ ys)] } else .stuck
    | _, _ => .stuck
  | _, _ => .stk
def subV : V → V → Cm V
  | .int i, .int j => .pur (.int (i - j))
  | _, _ => .stk
noncomputable def mulV : V → V → Cm V
  | .int i, .int j => haveI := Classical.propDecidable (IntMulOk i j); if IntMulOk i j then .pur (.int (i * j)) else .stk
  | .ref i, .int n => fun q => match q.H[i]? with
    | some (.list xs) => if xs.length = 1 ∧ 0 ≤ n ∧ n ≤ 1000000 then .ok (.ref q.H.length) { q with H := q.H ++ [.list (List.replicate n.toNat xs).flatten] } else .stuck
    | _ => .stuck
  | _, _ => .stk
def divV : V → V → Cm V
  | .int i, .int j => if j = 0 then .stk else .pur (.int (i.fdiv j))
  | _, _ => .stk
def modV : V → V → Cm V
  | .int i, .int j => if j = 0 then .stk else .pur (.int (i.fmod j))
  | _, _ => .stk
theorem P_sub : Prim2 G (fun A a b => wpT G A (binaryOp .Sub a b)) subV := by
  intro A env ι q s a b ca cb C ha R h1 h2
  unfold subV
  split
  · obtain ⟨t, rfl⟩ := h1; obtain ⟨u, rfl⟩ := h2
    exact Sat.ret R ⟨_, rfl⟩ fun Q E hQ => P.sub_int hQ
  · trivial
theorem P_div : Prim2 G (fun A a b => wpT G A (binaryOp .FloorDiv a b)) divV := by
  intro A env ι q s a b ca cb C ha R h1 h2
  unfold divV
  split
  · obtain ⟨t, rfl⟩ := h1; obtain ⟨u, rfl⟩ := h2
    split
    · trivial
    · exact Sat.ret R ⟨_, rfl⟩ fun Q E hQ => floordiv_int (by assumption) hQ (.inr (AOk.pylong C ha R))
  · trivial
theorem P_mod : Prim2 G (fun A a b => wpT G A (binaryOp .Mod a b)) modV := by
  intro A env ι q s a b ca cb C ha R h1 h2
  unfold modV
  split
  · obtain ⟨t, rfl⟩ := h1; obtain ⟨u, rfl⟩ := h2
    split
    · trivial
    · exact Sat.ret R ⟨_, rfl⟩ fun Q E hQ => mod_int' (by assumption) hQ
  · trivial
theorem StOk.list {ι : List Addr} {H : Hp} {h : Heap} (x : StOk G ι H h) {i : Nat} {xs : List V} (e : H[i]? = some (.list xs)) : ∃ a n vs, ι[i]? = some a ∧ IsL h a (List.toArray vs) n ∧ VRels G ι h xs vs := by
  have hi : i < ι.length := x.len ▸ (List.getElem?_eq_some_iff.mp e).1
  obtain ⟨vs, ⟨n, h1⟩, h2⟩ := x.obj i ι[i] _ (by simp) e
  exact ⟨ι[i], n, vs, by simp, h1, h2⟩
theorem StOk.dict {ι : List Addr} {H : Hp} {h : Heap} (x : StOk G ι H h) {i : Nat} {es : List (Int × V)} (e : H[i]? = some (.dict es)) : ∃ a kvs, ι[i]? = some a ∧ h.DictOf (intKind G.prog G.w) a kvs ∧ DRel G ι h es kvs := by
  have hi : i < ι.length := x.len ▸ (List.getElem?_eq_some_iff.mp e).1
  obtain ⟨kvs, h1, h2⟩ := x.obj i ι[i] _ (by simp) e
  exact ⟨ι[i], kvs, by simp, h1, h2⟩
theorem StOk.flds {ι : List Addr} {H : Hp} {h : Heap} (x : StOk G ι H h) {i : Nat} {fs : List (String × V)} (e : H[i]? = some (.flds fs)) : ∃ a es n, ι[i]? = some a ∧ h.get? a = some (dictOf es n) ∧ FRel G ι h fs es := by
  have hi : i < ι.length := x.len ▸ (List.getElem?_eq_some_iff.mp e).1
  obtain ⟨es, n, h1, h2⟩ := x.obj i ι[i] _ (by simp) e
  exact ⟨ι[i], es, n, by simp, h1, h2⟩
theorem push_stays (h : Heap) (o : Obj) : h.StaysIn (h.push o) := fun _ _ e => Heap.get?_push_of_some _ e
theorem vRef_new {ι : List Addr} {H : Hp} {h h' : Heap} (x : StOk G ι H h) (a : Addr) : VRel G (ι ++ [a]) h' (.ref H.length) (.ref a) := ⟨a, by rw [← x.len]; simp, rfl⟩

/-- a new list -/
theorem Sat.newList {β : Type} {A : Around} {ι : List Addr} {q : S} {s : Shared} {T : PT Value} {tk : Nat} {xs : List V} {vs : List Value} (R : Rel G A env ι q s) (hx : VRels G ι s.heap xs vs)
    (hT : ∀ Q E, Q (.ref s.heap.objs.size) { s with heap := s.heap.push { cls := .type "list", data := .seq vs.toArray }, toks := tk } → T Q E s) :
    Sat G A env ι s (.ok (.ref q.H.length) { q with H := q.H ++ [.list xs] }) (VRel G) T :=
  Sat.alloc R (push_stays _ _) (Heap.get?_none_of_le (Nat.le_refl _)) ⟨vs, ⟨0, Heap.get?_push_size _ rfl⟩, hx.mono (List.prefix_append _ _) (.of_stays (push_stays _ _))⟩ (vRef_new R.st _) hT

theorem ofString_append (x y : String) : Str.ofString x ++ Str.ofString y = Str.ofString (x ++ y) := by
  rw [Str.ofString_eq_toList, Str.ofString_eq_toList, Str.ofString_eq_toList, String.toList_append, List.map_append]
  apply Str.ext'
  show _ ++ _ = _
  simp
theorem ofString_inj {x y : String} (h : Str.ofString x = Str.ofString y) : x = y := by
  rw [Str.ofString_eq_toList, Str.ofString_eq_toList] at h
  have h1 : (x.toList.map Char.toNat) = (y.toList.map Char.toNat) := by simpa using congrArg (fun z : Str => z.cps.toList) h
  have h2 : x.toList = y.toList := by
    refine (List.map_inj_right ?_).mp h1
    intro a b e
    exact Char.ext (UInt32.toNat.inj e)
  exact String.toList_injective h2

theorem P_add : Prim2 G (fun A a b => wpT G A (binaryOp .Add a b)) addV := by
  intro A env ι q s a b ca cb C ha R h1 h2
  unfold addV
  split
  · obtain ⟨t, rfl⟩ := h1; obtain ⟨u, rfl⟩ := h2
    exact Sat.ret R ⟨_, rfl⟩ fun Q E hQ => P.add_int hQ
  · rename_i x y
    obtain ⟨t, rfl⟩ := h1; obtain ⟨u, rfl⟩ := h2
    split
    · rename_i hl
      intro Q E hQ
      refine add_str (fun t' tk => ?_) (by rw [PySem.ofString_length, PySem.ofString_length, sizeLine_eq]; omega)
      rw [ofString_append]
      exact hQ ι _ _ (Post.toks R tk) ⟨t', rfl⟩
    · trivial
  · rename_i i j
    obtain ⟨x, hx, rfl⟩ := h1; obtain ⟨y, hy, rfl⟩ := h2
    dsimp only
    split
    · rename_i xs ys e1 e2
      split
      · rename_i hl
        obtain ⟨a1, n1, vs, g1, g2, g3⟩ := R.st.list e1
        obtain ⟨a2, n2, ws, k1, k2, k3⟩ := R.st.list e2
        obtain rfl : x = a1 := Option.some.inj (hx.symm.trans g1)
        obtain rfl : y = a2 := Option.some.inj (hy.symm.trans k1)
        refine Sat.newList (β := Value) (tk := s.toks) R (g3.append k3) fun Q E hQ => P.add_list g2 k2 ?_ ?_
        · simpa using hQ
        · rw [List.size_toArray, List.size_toArray, g3.length, k3.length, sizeLine_eq]; omega
      · trivial
    · trivial
  · trivial

theorem flat_rel {ι : List Addr} {h : Heap} {xs : List V} {vs : List Value} (x : VRels G ι h xs vs) : ∀ n : Nat, VRels G ι h (List.replicate n xs).flatten (List.replicate n vs).flatten
  | 0 => vNil
  | n + 1 => by
    rw [List.replicate_succ, List.replicate_succ, List.flatten_cons, List.flatten_cons]
    exact x.append (flat_rel x n)

theorem mul_raw {prog : Program} {w : World} {A : Around} {E : Value → Shared → Prop} {s : Shared} {l : Addr} {items : Array Value} {k : Nat} {x : Int} {u : Tok} {Q : Value → Shared → Prop}
    (hl : IsL s.heap l items k) (hlo : -(2 ^ 63 : Int) ≤ x) (hhi : x < 2 ^ 63) (hsz : items.size * x.toNat ≤ 2 ^ 24)
    (h : Q (.ref s.heap.objs.size) { s with heap := s.heap.push { cls := .type "list", data := .seq (List.foldl (fun x1 x2 => x1 ++ x2) #[] (List.replicate (if items.isEmpty = true then 0 else x.toNat) items)) } }) :
    wpAny (model prog w) A (binaryOp .Mult (.ref l) (.int x u)) Q E s :=
  wpAny_binaryOp_repeat_ref (T := "list") (U := "int") (by decide) ⟨_, hl, rfl⟩ (fun s' => typeIs_int s' x u) noFill_list_mul F.fills_int_mul F.slot_int_rmul repeat_list F.slot_int_index.lookup
    (call_meets F.slot_int_rmul (typeIs_int s x u) F.entry_int_rmul (F.args_int_rmul_2 _ _) (int___rmul___int_list x u l items k)
      ⟨hl, rfl, ⟨_, hl, rfl⟩, call_meets F.slot_list_mul ⟨_, hl, rfl⟩ F.entry_list_mul (F.args_list_mul_2 _ _)
        (AutoListH.list___mul___list_int_3 l items k x u (by simp [Builtin.List.listFitsIndex]; omega) (by omega) (by simp [Builtin.List.listTooLong, sizeLine]; omega))
        ⟨hl, h⟩⟩)

theorem P_mul : Prim2 G (fun A a b => wpT G A (binaryOp .Mult a b)) mulV := by
  intro A env ι q s a b ca cb C ha R h1 h2
  unfold mulV
  split
  · obtain ⟨t, rfl⟩ := h1; obtain ⟨u, rfl⟩ := h2
    split
    · exact Sat.ret R ⟨_, rfl⟩ fun Q E hQ => P.mul_int hQ (by assumption)
    · trivial
  · rename_i i n
    obtain ⟨x, hx, rfl⟩ := h1; obtain ⟨u, rfl⟩ := h2
    dsimp only
    split
    · rename_i xs e1
      split
      · rename_i hl
        obtain ⟨a1, n1, vs, g1, g2, g3⟩ := R.st.list e1
        obtain rfl : x = a1 := Option.some.inj (hx.symm.trans g1)
        have hv : vs.length = 1 := g3.length.trans hl.1
        refine Sat.newList (β := Value) (tk := s.toks) R (flat_rel g3 n.toNat) fun Q E hQ => mul_raw g2 (by omega) (by omega) (by rw [List.size_toArray, hv]; omega) ?_
        have : (List.foldl (fun x1 x2 => x1 ++ x2) #[] (List.replicate (if vs.toArray.isEmpty = true then 0 else n.toNat) vs.toArray)) = (List.replicate n.toNat vs).flatten.toArray := listMul_foldl_if ..
        rw [this]
        exact hQ
      · trivial
    · trivial
  · trivial
end
end Mine

set_option Elab.async false
set_option linter.unusedVariables false
namespace Mine
open PySem PySem.W PyProof.Rows

/-! ### values as plain data; equality -/
def mapO {α β : Type} (f : α → Option β) : List α → Option (List β)
  | [] => some []
  | x :: xs => (f x).bind fun d => (mapO f xs).map (d :: ·)
def toD (H : Hp) : Nat → V → Option PyData
  | 0, _ => none
  | n + 1, v => match v with
    | .none => some .none
    | .bool b => some (.bool b)
    | .int i => some (.int i)
    | .str x => some (.str (Str.ofString x))
    | .tup xs => (mapO (toD H n) xs).map .tuple
    | .ref i => match H[i]? with
      | some (.list xs) => (mapO (toD H n) xs).map .list
      | _ => none
    | _ => none

section
variable {G : Cx} {hq : Bool} {k : Nat} {env : Env} {A : Around} {ι : List Addr} {q : S} {s : Shared} {H : Hp} {h : Heap}

theorem readsAll_of {n : Nat} (ih : ∀ {v : V} {cv : Value} {d : PyData}, VRel G ι h v cv → toD H n v = some d → ∃ as, Reads h cv d as) :
    ∀ {xs : List V} {vs : List Value} {ds : List PyData}, VRels G ι h xs vs → mapO (toD H n) xs = some ds → ∃ as, ReadsAll h vs ds as
  | [], _, _, x, e => by rw [show _ = [] from x]; cases e; exact ⟨_, .nil⟩
  | v :: xs, _, _, ⟨cv, vs', q, a, b⟩, e => by
    subst q
    obtain ⟨d, h1, h2⟩ := Option.bind_eq_some_iff.mp e
    obtain ⟨ds, h3, rfl⟩ := Option.map_eq_some_iff.mp h2
    obtain ⟨as, r1⟩ := ih a h1
    obtain ⟨bs, r2⟩ := readsAll_of ih b h3
    exact ⟨_, .cons r1 r2⟩

theorem reads_of (x : StOk G ι H h) : ∀ {n : Nat} {v : V} {cv : Value} {d : PyData}, VRel G ι h v cv → toD H n v = some d → ∃ as, Reads h cv d as
  | 0, _, _, _, _, e => by cases e
  | n + 1, v, cv, d, r, e => by
    have ih := @reads_of x n
    unfold toD at e
    cases v with
    | none => cases e; rw [show cv = .none from r]; exact ⟨_, .none⟩
    | bool b => cases e; rw [show cv = .bool b from r]; exact ⟨_, .bool b⟩
    | int i => cases e; obtain ⟨t, rfl⟩ := r; exact ⟨_, .int i t⟩
    | str y => cases e; obtain ⟨t, rfl⟩ := r; exact ⟨_, .str _ t⟩
    | tup xs =>
      obtain ⟨ds, h1, rfl⟩ := Option.map_eq_some_iff.mp e
      obtain ⟨a, vs, rfl, ⟨o, ho, hc, n', hd⟩, hv⟩ := r
      obtain ⟨as, ra⟩ := readsAll_of ih hv h1
      exact ⟨_, .tuple ho hc hd (by simpa using ra)⟩
    | ref i =>
      dsimp only at e
      split at e
      · rename_i xs hx
        obtain ⟨ds, h1, rfl⟩ := Option.map_eq_some_iff.mp e
        obtain ⟨a, n', vs, g1, g2, g3⟩ := x.list hx
        obtain ⟨a', e1, rfl⟩ := r
        obtain rfl : a' = a := Option.some.inj (e1.symm.trans g1)
        obtain ⟨as, ra⟩ := readsAll_of ih g3 h1
        exact ⟨_, .list g2 rfl rfl (by simpa using ra)⟩
      · cases e
    | inst c i => cases e
    | exc c => cases e
    | scr => cases e

def eqD (H : Hp) (a b : V) : Option Bool := (toD H 8 a).bind fun d => (toD H 8 b).bind fun e => if SeqAt.shaped d && SeqAt.shaped e then some (PyData.eqv d e) else none
def inD (H : Hp) (a : V) (xs : List V) : Option Bool := (toD H 8 a).bind fun d => (mapO (toD H 8) xs).bind fun ds => if SeqAt.shaped d && SeqAt.shaped (.list ds) then some (ds.any fun y => PyData.eqv y d) else none

def eqV (a b : V) : Cm Bool := fun q => match eqD q.H a b with | some x => .ok x q | none => .stuck
def inV (a b : V) : Cm Bool := fun q => match b with
  | .ref i => (match q.H[i]?, a with
    | some (.list xs), _ => (match inD q.H a xs with | some x => .ok x q | none => .stuck)
    | some (.dict es), .int k => .ok ((es.lookup k).isSome) q
    | _, _ => .stuck)
  | _ => .stuck
def isNone : V → Bool
  | .none => true
  | _ => false
def cmpV (op : CmpOp) (a b : V) : Cm Bool := match op with
  | .Eq => eqV a b
  | .NotEq => (eqV a b).bnd fun x => .pur (!x)
  | .Lt => (match a, b with | .int i, .int j => .pur (decide (i < j)) | _, _ => .stk)
  | .LtE => (match a, b with | .int i, .int j => .pur (decide (i ≤ j)) | _, _ => .stk)
  | .Gt => (match a, b with | .int i, .int j => .pur (decide (i > j)) | _, _ => .stk)
  | .GtE => (match a, b with | .int i, .int j => .pur (decide (i ≥ j)) | _, _ => .stk)
  | .Is => (match b with | .none => .pur (isNone a) | _ => .stk)
  | .IsNot => (match b with | .none => .pur (!isNone a) | _ => .stk)
  | .In => inV a b
  | .NotIn => (inV a b).bnd fun x => .pur (!x)

theorem AOk.units_lt (ha : ∃ hq k, AOk hq k A env) : A.units + 100 < cLine := by
  obtain ⟨hq, k, ha⟩ := ha
  have := ha.units
  show A.units + 100 < 9900
  omega
theorem vrel_none {v : V} {cv : Value} (r : VRel G ι h v cv) : (cv == .none) = isNone v := by
  cases v with
  | none => rw [show cv = .none from r]; rfl
  | bool b => rw [show cv = .bool b from r]; rfl
  | int i => obtain ⟨t, rfl⟩ := r; rfl
  | str y => obtain ⟨t, rfl⟩ := r; rfl
  | tup xs => obtain ⟨a, vs, rfl, _⟩ := r; rfl
  | ref i => obtain ⟨a, _, rfl⟩ := r; rfl
  | inst c i => obtain ⟨a, x, C, o, _, _, rfl, _⟩ := r; rfl
  | exc c => obtain ⟨x, C, o, _, rfl, _⟩ := r; rfl
  | scr => rw [show cv = .ref G.sa from r]; rfl

abbrev bRel : List Addr → Heap → Bool → Value → Prop := fun _ _ x cv => cv = .bool x

theorem drel_valueAt : ∀ {es : List (Int × V)} {kvs : List (Int × Value)}, DRel G ι h es kvs → ∀ (k : Int), (match es.lookup k with | some v => ∃ cv, valueAt kvs k = some cv ∧ VRel G ι h v cv | none => valueAt kvs k = none)
  | [], _, x, k => by rw [show _ = [] from x]; rfl
  | (k', v) :: es, _, ⟨cv, kvs', q, a, b⟩, k => by
    subst q
    have ih := drel_valueAt b k
    rw [List.lookup_cons]
    unfold valueAt
    by_cases e : k = k'
    · subst e; simp; exact a
    · have : (k == k') = false := by simpa using e
      rw [this]
      have e' : ¬ (k' = k) := fun x => e x.symm
      simp only [e', if_false] 
      first | exact ih | simpa [valueAt, e'] using ih

end
end Mine

set_option Elab.async false
set_option linter.unusedVariables false
namespace Mine
open PySem PySem.W PyProof.Rows

section
variable {G : Cx} {hq : Bool} {k : Nat} {env : Env} {A : Around} {ι : List Addr} {q : S} {s : Shared} {H : Hp} {h : Heap}

theorem not_modules (C : CxOk G) (R : StOk G ι H h) {a : Addr} (ha : a ∈ ι) : (a == sysModules) = false := by
  obtain ⟨mm, ⟨o, _, _, ho, _⟩, _⟩ := C.seer.mods
  refine beq_eq_false_iff_ne.mpr fun e => ?_
  have := R.fresh a ha
  rw [e, ho] at this; cases this

theorem eqD_some {a b : V} {x : Bool} (e : eqD H a b = some x) : ∃ d f, toD H 8 a = some d ∧ toD H 8 b = some f ∧ SeqAt.shaped d = true ∧ SeqAt.shaped f = true ∧ x = PyData.eqv d f := by
  obtain ⟨d, h1, e⟩ := Option.bind_eq_some_iff.mp e
  obtain ⟨f, h2, e⟩ := Option.bind_eq_some_iff.mp e
  split at e
  · rename_i h; cases e; obtain ⟨h3, h4⟩ := Bool.and_eq_true_iff.mp h; exact ⟨d, f, h1, h2, h3, h4, rfl⟩
  · cases e
theorem inD_some {a : V} {xs : List V} {x : Bool} (e : inD H a xs = some x) : ∃ d ds, toD H 8 a = some d ∧ mapO (toD H 8) xs = some ds ∧ SeqAt.shaped d = true ∧ SeqAt.shaped (.list ds) = true ∧ x = ds.any fun y => PyData.eqv y d := by
  obtain ⟨d, h1, e⟩ := Option.bind_eq_some_iff.mp e
  obtain ⟨f, h2, e⟩ := Option.bind_eq_some_iff.mp e
  split at e
  · rename_i h; cases e; obtain ⟨h3, h4⟩ := Bool.and_eq_true_iff.mp h; exact ⟨d, f, h1, h2, h3, h4, rfl⟩
  · cases e

theorem P_cmp (op : CmpOp) {a b : V} {ca cb : Value} (C : CxOk G) (ha : ∃ hq k, AOk hq k A env) (R : Rel G A env ι q s) (h1 : VRel G ι s.heap a ca) (h2 : VRel G ι s.heap b cb) :
    Sat G A env ι s (cmpV op a b q) bRel (wpT G A (compareOp op ca cb)) := by
  have hu := AOk.units_lt ha
  have hEq : ∀ {x : Bool}, eqD q.H a b = some x → ∀ {Q E}, Q (.bool x) s → wpAny G.M A (compareOp .Eq ca cb) Q E s := fun {x} e {Q E} hQ => by
    obtain ⟨d, f, e1, e2, e3, e4, rfl⟩ := eqD_some e
    obtain ⟨as, r1⟩ := reads_of R.st h1 e1
    obtain ⟨bs, r2⟩ := reads_of R.st h2 e2
    exact eq_dataH r1 r2 e3 e4 (by omega) hQ
  have hNe : ∀ {x : Bool}, eqD q.H a b = some x → ∀ {Q E}, Q (.bool (!x)) s → wpAny G.M A (compareOp .NotEq ca cb) Q E s := fun {x} e {Q E} hQ => by
    obtain ⟨d, f, e1, e2, e3, e4, rfl⟩ := eqD_some e
    obtain ⟨as, r1⟩ := reads_of R.st h1 e1
    obtain ⟨bs, r2⟩ := reads_of R.st h2 e2
    exact ne_dataH r1 r2 e3 e4 (by omega) hQ
  have hIn : ∀ {x : Bool} {q' : S}, inV a b q = .ok x q' → q' = q ∧ (∀ {Q E}, (∀ tk, Q (.bool x) { s with toks := tk }) → wpAny G.M A (compareOp .In ca cb) Q E s) ∧ (∀ {Q E}, (∀ tk, Q (.bool (!x)) { s with toks := tk }) → wpAny G.M A (compareOp .NotIn ca cb) Q E s) := by
    intro x q' e
    unfold inV at e
    split at e
    · rename_i i
      obtain ⟨ad, hi, rfl⟩ := h2
      split at e
      · rename_i xs hx
        split at e
        · rename_i y hy
          cases e
          obtain ⟨d, ds, e1, e2, e3, e4, rfl⟩ := inD_some hy
          obtain ⟨as, r1⟩ := reads_of R.st h1 e1
          obtain ⟨a1, n1, vs, g1, g2, g3⟩ := R.st.list hx
          obtain rfl : ad = a1 := Option.some.inj (hi.symm.trans g1)
          obtain ⟨bs, r2⟩ := readsAll_of (reads_of R.st) g3 e2
          have r3 : Reads s.heap (.ref ad) (.list ds) _ := .list g2 rfl rfl (by simpa using r2)
          refine ⟨rfl, fun hQ => ?_, fun hQ => ?_⟩
          · exact SeqAt.in_list_reads r3 r1 (SeqAt.canLay_of_shaped e4) (SeqAt.canLay_of_shaped e3) (room_in_shaped e3 (by omega)) (hQ s.toks)
          · exact SeqAt.notIn_list_reads r3 r1 (SeqAt.canLay_of_shaped e4) (SeqAt.canLay_of_shaped e3) (room_in_shaped e3 (by omega)) (hQ s.toks)
        · cases e
      · rename_i es k0 hx
        cases e
        obtain ⟨t, rfl⟩ := h1
        obtain ⟨a1, kvs, g1, g2, g3⟩ := R.st.dict hx
        obtain rfl : ad = a1 := Option.some.inj (hi.symm.trans g1)
        have hm := not_modules C R.st (List.mem_of_getElem? g1)
        have hv := drel_valueAt g3 k0
        have hs : (valueAt kvs k0).isSome = (es.lookup k0).isSome := by
          cases hl : es.lookup k0 with
          | none => rw [hl] at hv; rw [hv]; rfl
          | some v => rw [hl] at hv; obtain ⟨cv, hv, _⟩ := hv; rw [hv]; rfl
        refine ⟨rfl, fun hQ => ?_, fun hQ => ?_⟩
        · exact wpAny_in_of (intKind_is G.prog G.w k0 t) hm g2.mapOf (by rw [hs]; exact hQ _)
        · exact wpAny_notIn_of (intKind_is G.prog G.w k0 t) hm g2.mapOf (by rw [hs]; exact hQ _)
      · cases e
    · cases e
  unfold cmpV
  split
  · unfold eqV
    cases e : eqD q.H a b with
    | none => trivial
    | some x => exact Sat.ret0 R rfl fun Q E hQ => hEq e hQ
  · unfold eqV Cm.bnd
    cases e : eqD q.H a b with
    | none => dsimp only; rw [e]; trivial
    | some x => dsimp only; rw [e]; exact Sat.ret0 (REL := bRel) R rfl fun Q E hQ => hNe e hQ
  · split
    · obtain ⟨t, rfl⟩ := h1; obtain ⟨u, rfl⟩ := h2
      exact Sat.ret0 R rfl fun Q E hQ => P.lt_int hQ
    · trivial
  · split
    · obtain ⟨t, rfl⟩ := h1; obtain ⟨u, rfl⟩ := h2
      exact Sat.ret0 R rfl fun Q E hQ => P.le_int hQ
    · trivial
  · split
    · obtain ⟨t, rfl⟩ := h1; obtain ⟨u, rfl⟩ := h2
      exact Sat.ret0 R rfl fun Q E hQ => P.gt_int hQ
    · trivial
  · split
    · obtain ⟨t, rfl⟩ := h1; obtain ⟨u, rfl⟩ := h2
      exact Sat.ret0 R rfl fun Q E hQ => P.ge_int hQ
    · trivial
  · split
    · rw [show cb = .none from h2]
      exact Sat.ret0 R rfl fun Q E hQ => is_none (by rw [vrel_none h1]; exact hQ)
    · trivial
  · split
    · rw [show cb = .none from h2]
      exact Sat.ret0 R rfl fun Q E hQ => isNot_none (by rw [vrel_none h1]; exact hQ)
    · trivial
  · cases e : inV a b q with
    | stuck => trivial
    | exc c q' =>
      exfalso
      unfold inV at e
      (repeat' split at e) <;> cases e
    | ok x q' =>
      obtain ⟨rfl, h3, _⟩ := hIn e
      exact fun Q E hQ => h3 fun tk => hQ ι _ _ (Post.toks R tk) rfl
  · unfold Cm.bnd
    cases e : inV a b q with
    | stuck => trivial
    | exc c q' =>
      exfalso
      unfold inV at e
      (repeat' split at e) <;> cases e
    | ok x q' =>
      obtain ⟨rfl, _, h3⟩ := hIn e
      exact fun Q E hQ => h3 fun tk => hQ ι _ _ (Post.toks R tk) rfl

def truthV : V → Cm Bool
  | .bool b => .pur b
  | _ => .stk
theorem P_truth {v : V} {cv : Value} (R : Rel G A env ι q s) (h1 : VRel G ι s.heap v cv) : Sat G A env ι s (truthV v q) (fun _ _ x y => x = y) (wpT G A (truthy cv)) := by
  unfold truthV
  split
  · rw [show cv = .bool _ from h1]; exact Sat.ret0 R rfl fun Q E hQ => wpAny_truthy_bool hQ
  · trivial
theorem P_truthB {x : Bool} {cv : Value} (R : Rel G A env ι q s) (h1 : cv = .bool x) : Sat G A env ι s (.ok x q) (fun _ _ x y => x = y) (wpT G A (truthy cv)) := by
  subst h1; exact Sat.ret0 R rfl fun Q E hQ => wpAny_truthy_bool hQ

theorem E_cmp (C : CxOk G) {l r : Expr} {op : CmpOp} {pos : Pos} {m1 m2 : Cm V} (h1 : Ev G hq k env l m1) (h2 : Ev G hq k env r m2) (hm : behindInMarks op r = false) :
    Ev G hq k env (.Compare l [op] [r] pos) (m1.bnd fun a => m2.bnd fun b => (cmpV op a b).bnd fun x => .pur (.bool x)) :=
  fun A ι q s ha R => (Sat.bnd (h1 A ι q s ha R) fun a q' ι' b s' _ P hv => Sat.bnd (T' := fun b' Q E s₂ => wpAny G.M A (compareOp op b b') Q E s₂) (h2 A ι' q' s' ha P.rel) fun a2 q2 ι2 b2 s2 _ P2 hv2 =>
    (Sat.bnd (T' := fun c Q E s => Q c s) (P_cmp op C ⟨_, _, ha⟩ P2.rel (P2.vrel P.rel hv) hv2) fun x q3 ι3 c s3 _ P3 hc => Sat.ret0 P3.rel (hc ▸ vBool x) fun Q E hQ => hQ)).imp fun Q E x => wpAny_Compare1 x hm

theorem T_cmp (C : CxOk G) {l r : Expr} {op : CmpOp} {pos : Pos} {m1 m2 : Cm V} (h1 : Ev G hq k env l m1) (h2 : Ev G hq k env r m2) (hm : behindInMarks op r = false) :
    Tr G hq k env (.Compare l [op] [r] pos) (m1.bnd fun a => m2.bnd fun b => (cmpV op a b).bnd fun x => .pur x) :=
  fun A ι q s ha R => (Sat.bnd (h1 A ι q s ha R) fun a q' ι' b s' _ P hv => Sat.bnd (T' := fun b' Q E s₂ => wpAny G.M A (compareOp op b b') (fun c s₃ => wpAny G.M A (truthy c) Q E s₃) E s₂) (h2 A ι' q' s' ha P.rel) fun a2 q2 ι2 b2 s2 _ P2 hv2 =>
    (Sat.bnd (T' := fun c Q E s => wpAny G.M A (truthy c) Q E s) (P_cmp op C ⟨_, _, ha⟩ P2.rel (P2.vrel P.rel hv) hv2) fun x q3 ι3 c s3 _ P3 hc => P_truthB P3.rel hc)).imp fun Q E x => wpAny_isTrue_Compare1 x hm

theorem E_cmp2 (C : CxOk G) {l r1 r2 : Expr} {o1 o2 : CmpOp} {pos : Pos} {m0 m1 m2 : Cm V} (h0 : Ev G hq k env l m0) (h1 : Ev G hq k env r1 m1) (h2 : Ev G hq k env r2 m2) (hm : lastMarks [o1, o2] [r1, r2] = false) :
    Ev G hq k env (.Compare l [o1, o2] [r1, r2] pos) (m0.bnd fun a => m1.bnd fun b => (cmpV o1 a b).bnd fun x => if x then m2.bnd fun c => (cmpV o2 b c).bnd fun y => .pur (.bool y) else .pur (.bool false)) := by
  intro A ι q s ha R
  refine (Sat.bnd (T' := fun a Q E s₁ => wpAny G.M A (eval r1 env) (fun b s₁ => wpAny G.M A (compareOp o1 a b) (fun c s₂ => wpAny G.M A (truthy c)
      (fun t s₃ => if t then wpAny G.M A (compareChain pos b [o2] [eval r2 env]) Q E s₃ else Q c s₃) E s₂) E s₁) E s₁) (h0 A ι q s ha R) fun a q' ι' b s' _ P hv => ?_).imp fun Q E x => Compare_chain (wpAny_mono x (fun a s₁ y => chain_link y) fun _ _ y => y) hm
  refine Sat.bnd (T' := fun b' Q E s₁ => wpAny G.M A (compareOp o1 b b') (fun c s₂ => wpAny G.M A (truthy c)
      (fun t s₃ => if t then wpAny G.M A (compareChain pos b' [o2] [eval r2 env]) Q E s₃ else Q c s₃) E s₂) E s₁) (h1 A ι' q' s' ha P.rel) fun a2 q2 ι2 b2 s2 _ P2 hv2 => ?_
  refine Sat.bnd (T' := fun c Q E s₂ => wpAny G.M A (truthy c) (fun t s₃ => if t then wpAny G.M A (compareChain pos b2 [o2] [eval r2 env]) Q E s₃ else Q c s₃) E s₂) (P_cmp o1 C ⟨_, _, ha⟩ P2.rel (P2.vrel P.rel hv) hv2) fun x q3 ι3 c s3 _ P3 hc => ?_
  subst hc
  cases x with
  | false => exact Sat.ret0 P3.rel (vBool false) fun Q E hQ => wpAny_truthy_bool hQ
  | true =>
    refine (Sat.bnd (T' := fun c' Q E s₁ => wpAny G.M A (compareOp o2 b2 c') Q E s₁) (h2 A ι3 q3 s3 ha P3.rel) fun a4 q4 ι4 b4 s4 _ P4 hv4 => ?_).imp fun Q E y => wpAny_truthy_bool (chain_last y)
    exact Sat.bnd (T' := fun c Q E s => Q c s) (P_cmp o2 C ⟨_, _, ha⟩ P4.rel (P4.vrel P3.rel (P3.vrel P2.rel hv2)) hv4) fun x q5 ι5 c s5 _ P5 hc => Sat.ret0 P5.rel (hc ▸ vBool x) fun Q E hQ => hQ

theorem T_not {x : Expr} {pos : Pos} {m : Cm Bool} (h1 : Tr G hq k env x m) : Tr G hq k env (.UnaryOp .Not x pos) (m.bnd fun b => .pur (!b)) :=
  fun A ι q s ha R => (Sat.bnd (T' := fun b Q E s₁ => Q (!b) s₁) (h1 A ι q s ha R) fun a q' ι' b s' _ P hv => Sat.ret0 P.rel (hv ▸ rfl) fun Q E hQ => hQ).imp fun Q E x => wpAny_isTrue_Not x
theorem E_not {x : Expr} {pos : Pos} {m : Cm V} (h1 : Ev G hq k env x m) : Ev G hq k env (.UnaryOp .Not x pos) (m.bnd fun v => (truthV v).bnd fun b => .pur (.bool (!b))) :=
  fun A ι q s ha R => (Sat.bnd (T' := fun v Q E s₁ => wpAny G.M A (truthy v) (fun b s₁ => Q (.bool (!b)) s₁) E s₁) (h1 A ι q s ha R) fun a q' ι' b s' _ P hv =>
    Sat.bnd (T' := fun b Q E s₁ => Q (Value.bool (!b)) s₁) (P_truth P.rel hv) fun a2 q2 ι2 b2 s2 _ P2 hv2 => by subst hv2; exact Sat.ret0 P2.rel (vBool _) fun Q E hQ => hQ).imp fun Q E x => wpAny_UnaryOp (wpAny_mono x (fun v s₁ y => not_value y) fun _ _ y => y)
def negV : V → Cm V
  | .int i => .pur (.int (-i))
  | _ => .stk
theorem E_neg {x : Expr} {pos : Pos} {m : Cm V} (h1 : Ev G hq k env x m) : Ev G hq k env (.UnaryOp .USub x pos) (m.bnd fun v => negV v) :=
  fun A ι q s ha R => (Sat.bnd (T' := fun v Q E s₁ => wpAny G.M A (unaryOp .USub v) Q E s₁) (h1 A ι q s ha R) fun a q' ι' b s' _ P hv => by
    cases a with
    | int i => obtain ⟨t, rfl⟩ := hv; exact Sat.ret P.rel (vInt _ _) fun Q E hQ => PySem.P.neg_int hQ
    | _ => trivial).imp fun Q E x => wpAny_UnaryOp x
theorem T_val {e : Expr} {m : Cm V} (h1 : Ev G hq k env e m) (he : isTrue e env (eval e env) = (do let v ← eval e env; standAt e.pos; holding [v] (truthy v))) : Tr G hq k env e (m.bnd fun v => truthV v) :=
  fun A ι q s ha R => (Sat.bnd (T' := fun v Q E s₁ => wpAny G.M A (truthy v) Q E s₁) (h1 A ι q s ha R) fun a q' ι' b s' _ P hv => P_truth P.rel hv).imp fun Q E x => wpAny_isTrue_value x he

abbrev TrA (G : Cx) (hq : Bool) (k : Nat) (env : Env) (op : BoolOp) (es : List Expr) (m : Cm Bool) : Prop := Sem.Is G hq k env (fun A => wpT G A (allTrue op es env)) m (fun _ _ a b => a = b)
theorem TA_or0 : TrA G hq k env .Or [] (.pur false) := fun A ι q s ha R => Sat.ret0 R rfl fun Q E hQ => wpAny_allTrue_Or_nil hQ
theorem TA_or {x : Expr} {es : List Expr} {m m' : Cm Bool} (h1 : Tr G hq k env x m) (h2 : TrA G hq k env .Or es m') : TrA G hq k env .Or (x :: es) (m.bnd fun b => if b then .pur true else m') :=
  fun A ι q s ha R => (Sat.bnd (T' := fun b Q E s₁ => if b then Q true s₁ else wpAny G.M A (allTrue .Or es env) Q E s₁) (h1 A ι q s ha R) fun a q' ι' b s' _ P hv => by
    subst hv
    cases a with
    | true => exact Sat.ret0 P.rel rfl fun Q E hQ => hQ
    | false => exact (h2 A ι' q' s' ha P.rel).imp fun Q E x => x).imp fun Q E x => wpAny_allTrue_Or_cons x
theorem T_bool {op : BoolOp} {es : List Expr} {pos : Pos} {m : Cm Bool} (h1 : TrA G hq k env op es m) : Tr G hq k env (.BoolOp op es pos) m :=
  fun A ι q s ha R => (h1 A ι q s ha R).imp fun Q E x => wpAny_isTrue_BoolOp x

abbrev EvB (G : Cx) (hq : Bool) (k : Nat) (env : Env) (op : BoolOp) (es : List Expr) (m : Cm V) : Prop := ∀ pos, Sem.Is G hq k env (fun A => wpT G A (boolOp pos op (evalEach es env))) m (VRel G)
theorem EB_one {op : BoolOp} {e : Expr} {m : Cm V} (h1 : Ev G hq k env e m) : EvB G hq k env op [e] m := fun pos A ι q s ha R => (h1 A ι q s ha R).imp fun Q E x => x
theorem EB_and {x y : Expr} {es : List Expr} {m m' : Cm V} (h1 : Ev G hq k env x m) (h2 : EvB G hq k env .And (y :: es) m') :
    EvB G hq k env .And (x :: y :: es) (m.bnd fun v => (truthV v).bnd fun b => if b then m' else .pur v) := fun pos A ι q s ha R => by
  refine (Sat.bnd (T' := fun v Q E s₁ => wpAny G.M A (truthy v) (fun t s₂ => if t then wpAny G.M A (boolOp pos .And (evalEach (y :: es) env)) Q E s₂ else Q v s₂) E s₁) (h1 A ι q s ha R) fun a q' ι' b s' _ P hv =>
    Sat.bnd (T' := fun t Q E s₂ => if t then wpAny G.M A (boolOp pos .And (evalEach (y :: es) env)) Q E s₂ else Q b s₂) (P_truth P.rel hv) fun a2 q2 ι2 b2 s2 _ P2 hv2 => ?_).imp fun Q E x => ?_
  · subst hv2
    cases a2 with
    | true => exact (h2 pos A ι2 q2 s2 ha P2.rel).imp fun Q E x => x
    | false => exact Sat.ret0 P2.rel (P2.vrel P.rel hv) fun Q E hQ => hQ
  · show wpAny G.M A (do
      let v ← eval _ env
      standAt pos
      let t ← holding [v] (truthy v)
      match BoolOp.And, t with
      | .And, false | .Or, true => pure v
      | _, _ => boolOp pos .And (evalEach (y :: es) env)) Q E s
    refine wpAny_bind (wpAny_mono x (fun v s₁ h₁ => wpAny_bind (wpAny_standAt (wpAny_bind (wpAny_holding (wpAny_mono h₁ (fun t s₂ h₂ => ?_) fun _ _ x => x))))) fun _ _ x => x)
    cases t with
    | false => exact wpAny_pure h₂
    | true => exact h₂
theorem E_boolop {op : BoolOp} {es : List Expr} {pos : Pos} {m : Cm V} (h1 : EvB G hq k env op es m) : Ev G hq k env (.BoolOp op es pos) m :=
  fun A ι q s ha R => (h1 pos A ι q s ha R).imp fun Q E x => x
end
end Mine

set_option Elab.async false
set_option linter.unusedVariables false
namespace Mine
open PySem PySem.W PyProof.Rows

section
variable {G : Cx} {hq : Bool} {k : Nat} {env : Env} {A : Around} {ι : List Addr} {q : S} {s : Shared} {H : Hp} {h : Heap}

theorem mem_of_lookup {α β : Type} [BEq α] [LawfulBEq α] {x : α} {y : β} : ∀ {l : List (α × β)}, l.lookup x = some y → (x, y) ∈ l
    | [], e => by simp at e
    | (a, b) :: r, e => by
      rw [List.lookup_cons] at e
      split at e
      · rename_i q; cases e; rw [eq_of_beq q]; exact .head _
      · exact .tail _ (mem_of_lookup e)

/-- an own object of the frame (its names, a cell) changes -/
theorem Post.ownChange (R : Rel G A env ι q s) {h' : Heap} {tk : Nat} {a : Addr} {l' : Loc} (ha : a ∈ own env) (hs : Heap.SameBut a s.heap h')
    (ho : ∀ o, s.heap.get? a = some o → ∀ es n, o.data = .dict es n → ∃ o', h'.get? a = some o' ∧ ∃ es n, o'.data = .dict es n)
    (fr' : Imm s.heap h' → FrOk G env l' ι h' h') : Post G A env ι s ι ⟨l', q.H⟩ { s with heap := h', toks := tk } := by
  have ext := hs.extBut
  have ne : ∀ b o, s.heap.get? b = some o → b ∉ own env ++ ι → h'.get? b = some o := fun b o e hb => ext b o (fun q => hb (List.mem_append_left _ (q ▸ ha))) e
  have im := R.imm' (h' := h') fun b o e hW => ⟨o.slots, ne b o e hW⟩
  have kp : Kp (own env ++ ι) (frs A) s.heap h' := ⟨fun b o e => by
      by_cases hb : b = a
      · subst hb; obtain ⟨o', e', _⟩ := (fr' im).mut (fun _ _ e => e) ha; exact ⟨o', e'⟩
      · exact ⟨o, ext b o hb e⟩, fun b o e hW => ⟨o.slots, ne b o e hW⟩, fun b o e hW _ => ne b o e hW⟩
  have pr : ι <+: ι := List.prefix_refl _
  have hai : a ∉ ι := R.fr.dis a ha
  refine ⟨pr, ⟨⟨?_, R.st.len, R.st.nodup, R.st.fresh, ?_⟩, fr' im, ?_, R.gens, R.os⟩, kp, fun _ h => .inl h⟩
  · intro b o e
    exact ext b o (fun q => by rw [q, R.fr.fresh a ha] at e; cases e) (R.st.keep b o e)
  · intro j x y e1 e2
    exact (R.st.obj j x y e1 e2).at pr im fun o e => ext x o (fun q => hai (q ▸ List.mem_of_getElem? e1)) e
  · intro env' he
    obtain ⟨b1, L, o', b2, b3, ⟨es, n, b4⟩, b5, b6⟩ := R.fs env' he
    by_cases hL : L = a
    · subst hL
      obtain ⟨o2, c1, es', n', c2⟩ := ho o' b3 es n b4
      exact ⟨b1, L, o2, b2, c1, ⟨es', n', c2⟩, b5, b6⟩
    · exact ⟨b1, L, o', b2, ext L o' hL b3, ⟨es, n, b4⟩, b5, b6⟩

theorem upd_some {l : Loc} {x y : String} {v w : V} (e : upd l x v y = some w) : (y = x ∧ w = v) ∨ (y ≠ x ∧ l y = some w) := by
  unfold upd at e
  split at e
  · rename_i h; exact .inl ⟨h, (Option.some.inj e).symm⟩
  · rename_i h; exact .inr ⟨h, e⟩

/-- storing a name -/
def Binds (env : Env) (x : String) : Prop := env.kindOf (Str.ofString x) = some .local ∨ (env.kindOf (Str.ofString x) = some .cell ∧ (env.cells.lookup (Str.ofString x)).isSome = true)

theorem P_store {x : String} {v : V} {cv : Value} (hx : Binds env x) (R : Rel G A env ι q s) (hv : VRel G ι s.heap v cv) :
    Sat G A env ι s (.ok () ⟨upd q.l x v, q.H⟩) (fun _ _ _ _ => True) (wpT G A (storeName env (Str.ofString x) cv)) := by
  intro Q E hQ
  have hp : (env.scope.kind == .class || (env.scope.kind == .module && env.locals != env.globals)) = false := by rw [R.fr.kind]; rfl
  rcases hx with hx | ⟨hx, hc⟩
  · obtain ⟨m, hn, hm⟩ := R.fr.loc
    refine wpAny_storeName_local hx hn (fun h' hn' hs => ?_) hp
    refine hQ ι () _ (Post.ownChange R (.head _) hs (fun o _ es n _ => ?_) fun im => ?_) trivial
    · obtain ⟨o', es', ep', h1, h2, _⟩ := hn'; exact ⟨o', h1, es', ep', h2⟩
    · have pr : ι <+: ι := List.prefix_refl _
      refine ⟨R.fr.kind, R.fr.glob, R.fr.blt, ⟨_, hn', fun y w e1 e2 => ?_⟩, fun y w e1 e2 => ?_, fun p hp => ?_, R.fr.ndup, R.fr.dis, R.fr.fresh⟩
      · rcases upd_some e1 with ⟨rfl, rfl⟩ | ⟨hne, e1⟩
        · exact ⟨cv, by simp, hv.mono pr im⟩
        · obtain ⟨cw, a, b⟩ := hm y w e1 e2
          exact ⟨cw, by rw [if_neg (fun q => hne (ofString_inj q))]; exact a, b.mono pr im⟩
      · rcases upd_some e1 with ⟨rfl, rfl⟩ | ⟨hne, e1⟩
        · rw [hx] at e2; rcases e2 with e2 | e2 <;> cases e2
        · obtain ⟨c, o, cw, a, b, d, f⟩ := R.fr.cel y w e1 e2
          refine ⟨c, o, cw, a, hs.extBut c o (fun q => ?_) b, d, f.mono pr im⟩
          obtain ⟨oL, es, ep, hL, hd, _⟩ := hn
          rw [q, hL] at b; cases b; rw [hd] at d; cases d
      · obtain ⟨o, ov, a, b⟩ := R.fr.cells p hp
        refine ⟨o, ov, hs.extBut p.2 o (fun q => ?_) a, b⟩
        obtain ⟨oL, es, ep, hL, hd, _⟩ := hn
        rw [q, hL] at a; cases a; rw [hd] at b; cases b
  · obtain ⟨c, hc⟩ := Option.isSome_iff_exists.mp hc
    have hmem := mem_of_lookup hc
    have hown : c ∈ own env := List.mem_cons_of_mem _ (List.mem_map.mpr ⟨_, hmem, rfl⟩)
    obtain ⟨o, ov, h1, h2⟩ := R.fr.cells _ hmem
    refine wpAny_storeName_cell R.fr.kind hx hc ⟨o, h1, h2⟩ (fun h' hc' hs => ?_)
    obtain ⟨o', h3, h4⟩ := hc'
    refine hQ ι () _ (Post.ownChange (tk := s.toks) R hown hs (fun o2 e es n d => ?_) fun im => ?_) trivial
    · dsimp only at h1; rw [h1] at e; cases e; rw [h2] at d; cases d
    · have pr : ι <+: ι := List.prefix_refl _
      refine ⟨R.fr.kind, R.fr.glob, R.fr.blt, ?_, fun y w e1 e2 => ?_, fun p hp => ?_, R.fr.ndup, R.fr.dis, R.fr.fresh⟩
      · obtain ⟨m, hn, hm⟩ := R.fr.loc
        refine ⟨m, hn.sameBut hs (fun q => ?_), fun y w e1 e2 => ?_⟩
        · obtain ⟨oL, es, ep, hL, hd, _⟩ := hn
          dsimp only at h1
          rw [q, h1] at hL; cases hL; rw [h2] at hd; cases hd
        · rcases upd_some e1 with ⟨rfl, rfl⟩ | ⟨hne, e1⟩
          · rw [hx] at e2; cases e2
          · obtain ⟨cw, a, b⟩ := hm y w e1 e2; exact ⟨cw, a, b.mono pr im⟩
      · rcases upd_some e1 with ⟨rfl, rfl⟩ | ⟨hne, e1⟩
        · exact ⟨c, o', cv, hc, h3, h4, hv.mono pr im⟩
        · obtain ⟨c2, o2, cw, a, b, d, f⟩ := R.fr.cel y w e1 e2
          refine ⟨c2, o2, cw, a, hs.extBut c2 o2 (fun q => ?_) b, d, f.mono pr im⟩
          subst q
          have hm2 := mem_of_lookup a
          exact hne (ofString_inj (congrArg (·.1) (nodup_snd R.fr.ndup hm2 hmem)))
      · by_cases hpc : p.2 = c
        · exact ⟨o', some cv, by rw [hpc]; exact h3, h4⟩
        · obtain ⟨o2, ov2, a, b⟩ := R.fr.cells p hp
          exact ⟨o2, ov2, hs.extBut p.2 o2 hpc a, b⟩
where
  nodup_snd : ∀ {l : List (Str × Addr)} {x y : Str} {c : Addr}, (l.map (·.2)).Nodup → (x, c) ∈ l → (y, c) ∈ l → ((x, c) : Str × Addr) = (y, c)
    | [], _, _, _, _, h, _ => nomatch h
    | p :: r, x, y, c, hn, h1, h2 => by
      rw [List.map_cons, List.nodup_cons] at hn
      rcases List.mem_cons.mp h1 with e1 | h1 <;> rcases List.mem_cons.mp h2 with e2 | h2
      · rw [e1, e2]
      · exact absurd (List.mem_map.mpr ⟨_, h2, by rw [← e1]⟩) hn.1
      · exact absurd (List.mem_map.mpr ⟨_, h1, by rw [← e2]⟩) hn.1
      · exact nodup_snd hn.2 h1 h2

theorem fNext : FlRel G ι h .next .next := rfl
/-! ### statements -/
def setV (x : String) (v : V) : Cm Unit := fun q => .ok () ⟨upd q.l x v, q.H⟩

theorem X_assign {x : String} {p pos : Pos} {e : Expr} {m : Cm V} (hx : Binds env x) (h1 : Ev G hq k env e m) (hs : swapsWith e (some (.Name (Str.ofString x) p)) pos.line env = pure false) :
    Ex G hq k env (.Assign [.Name (Str.ofString x) p] e pos) (m.bnd fun v => (setV x v).bnd fun _ => .pur .next) :=
  fun A ι q s ha R => (Sat.bnd (T' := fun v Q E s₁ => wpAny G.M A (storeName env (Str.ofString x) v) (fun _ => Q .next) E s₁) (h1 A ι q s ha R) fun a q' ι' b s' _ P hv =>
    Sat.bnd (m := setV x a) (T' := fun _ Q E s₁ => Q Flow.next s₁) (P_store hx P.rel hv) fun a2 q2 ι2 b2 s2 _ P2 _ => Sat.ret0 (REL := FlRel G) P2.rel fNext fun Q E hQ => hQ).imp fun Q E x => wpAny_Assign_Name x hs

theorem X_ret {e : Expr} {pos : Pos} {m : Cm V} (h1 : Ev G hq k env e m) : Ex G hq k env (.Return (some e) pos) (m.bnd fun v => .pur (.ret v)) :=
  fun A ι q s ha R => (Sat.bnd (T' := fun v Q E s₁ => Q (.ret v) s₁) (h1 A ι q s ha R) fun a q' ι' b s' _ P hv => Sat.ret0 P.rel ⟨b, rfl, hv⟩ fun Q E hQ => hQ).imp fun Q E x => wpAny_Return_some x
theorem X_if {test : Expr} {body orelse : List Stmt} {pos : Pos} {m : Cm Bool} {m1 m2 : Cm Fl} (h0 : Tr G hq k env test m) (h1 : Exs G hq k env body m1) (h2 : Exs G hq k env orelse m2) :
    Ex G hq k env (.If test body orelse pos) (m.bnd fun b => if b then m1 else m2) :=
  fun A ι q s ha R => (Sat.bnd (T' := fun b Q E s₂ => if b then wpAny G.M A (execs body env) Q E s₂ else wpAny G.M A (execs orelse env) Q E s₂) (h0 A ι q s ha R) fun a q' ι' b s' _ P hv => by
    subst hv
    cases a with
    | true => exact (h1 A ι' q' s' ha P.rel).imp fun Q E x => x
    | false => exact (h2 A ι' q' s' ha P.rel).imp fun Q E x => x).imp fun Q E x => wpAny_If x
def seqV (m : Cm Fl) (m' : Cm Fl) : Cm Fl := m.bnd fun f => match f with | .next => m' | .ret v => .pur (.ret v)
theorem Xs_nil : Exs G hq k env [] (.pur .next) := fun A ι q s ha R => Sat.ret0 R fNext fun Q E hQ => wpAny_execs_nil hQ
theorem Xs_cons {st : Stmt} {rest : List Stmt} {m m' : Cm Fl} (h1 : Ex G hq k env st m) (h2 : Exs G hq k env rest m') : Exs G hq k env (st :: rest) (seqV m m') :=
  fun A ι q s ha R => (Sat.bnd (T' := fun f Q E s' => match f with | .next => wpAny G.M A (execs rest env) Q E s' | f => Q f s') (h1 A ι q s ha R) fun a q' ι' b s' _ P hv => by
    cases a with
    | next => rw [show b = .next from hv]; exact (h2 A ι' q' s' ha P.rel).imp fun Q E x => x
    | ret v => obtain ⟨cv, rfl, hv⟩ := hv; exact Sat.ret0 P.rel ⟨cv, rfl, hv⟩ fun Q E hQ => hQ).imp fun Q E x => wpAny_execs_cons x
/-- a last statement alone -/
theorem Xs_one {st : Stmt} {m : Cm Fl} (h1 : Ex G hq k env st m) : Exs G hq k env [st] m :=
  fun A ι q s ha R => (h1 A ι q s ha R).imp fun Q E x => wpAny_execs_cons (wpAny_mono x (fun f s' y => by cases f <;> first | exact wpAny_execs_nil y | exact y) fun _ _ y => y)

/-- a call as a statement -/
theorem X_expr {e : Expr} {pos : Pos} {m : Cm V} (h1 : Ev G hq k env e m) (hi : interactive env = false) (hs : swapsWith e none pos.line env = pure false) :
    Ex G hq k env (.Expr e pos) (m.bnd fun _ => .pur .next) :=
  fun A ι q s ha R => (Sat.bnd (T' := fun v Q E s₁ => Q .next s₁) (h1 A ι q s ha R) fun a q' ι' b s' _ P hv => Sat.ret0 P.rel fNext fun Q E hQ => hQ).imp fun Q E x => by
    show wpAny _ _ _ _ _ _
    rw [exec_Expr env e pos hi hs]
    refine wpAny_bind (wpAny_standAt (wpAny_bind (wpAny_mono x (fun v s' h' => ?_) fun _ _ x => x)))
    unfold dropValue
    split
    · exact wpAny_pure h'
    · exact wpAny_bind (wpAny_standAt (wpAny_bind (wpAny_runValue (codeAny_builtin entry_let_go (show wpAny _ _ (PySem.ret .none) _ _ s' from wpAny_pure (wpAny_pure h'))))))
    · exact wpAny_pure h'
end
end Mine

set_option Elab.async false
set_option linter.unusedVariables false
namespace Mine
open PySem PySem.W PyProof.Rows

section
variable {G : Cx} {hq : Bool} {k : Nat} {env : Env} {A : Around} {ι : List Addr} {q : S} {s : Shared} {H : Hp} {h : Heap}

/-! ### attributes -/
def fset (f : String) (v : V) : List (String × V) → List (String × V)
  | [] => [(f, v)]
  | (g, w) :: r => if g = f then (g, v) :: r else (g, w) :: fset f v r

theorem isStr_of_string {f g : String} {t : Tok} : (Value.str (Str.ofString g) t).isStr (Str.ofString f) = decide (g = f) := by
  show (Str.ofString g == Str.ofString f) = _
  by_cases e : g = f
  · subst e; simp
  · have : ¬ Str.ofString g = Str.ofString f := fun x => e (ofString_inj x)
    simp [e, this]

theorem frel_get : ∀ {fs : List (String × V)} {es : List DictEntry}, FRel G ι h fs es → ∀ (f : String),
    (match fs.lookup f with | some v => ∃ cv, getL (Str.ofString f) es = some (some cv) ∧ VRel G ι h v cv | none => getL (Str.ofString f) es = some none)
  | [], _, x, f => by rw [show _ = [] from x]; rfl
  | (g, w) :: fs, _, ⟨t, cv, es', q, a, b⟩, f => by
    subst q
    have ih := frel_get b f
    rw [List.lookup_cons]
    dsimp only at a ⊢
    by_cases e : f = g
    · subst e
      simp only [beq_self_eq_true]
      refine ⟨cv, ?_, a⟩
      unfold getL
      rw [List.find?_cons_of_pos (by show Value.isStr _ _ = true; rw [isStr_of_string]; simp)]
    · have e' : (f == g) = false := by simpa using e
      rw [e']
      have hne : ¬ (g = f) := fun x => e x.symm
      have : getL (Str.ofString f) (⟨PyData.keyHash G.w.params (Str.ofString g), .str (Str.ofString g) t, cv⟩ :: es') = getL (Str.ofString f) es' := by
        unfold getL
        rw [List.find?_cons_of_neg (by show ¬ (Value.isStr _ _ = true); rw [isStr_of_string]; simpa using hne)]
        have : (DictEntry.refKey ⟨PyData.keyHash G.w.params (Str.ofString g), .str (Str.ofString g) t, cv⟩) = false := rfl
        simp only [List.any_cons, this, Bool.false_or]
      rw [this]
      exact ih

theorem frel_set {f : String} {v : V} {cv : Value} {tk : Tok} (hv : VRel G ι h v cv) : ∀ {fs : List (String × V)} {es : List DictEntry}, FRel G ι h fs es →
    FRel G ι h (fset f v fs) (putL (Str.ofString f) (PyData.keyHash G.w.params (Str.ofString f)) (.str (Str.ofString f) tk) cv es)
  | [], _, x => by rw [show _ = [] from x]; exact ⟨tk, cv, [], rfl, hv, rfl⟩
  | (g, w) :: fs, _, ⟨t, cw, es', q, a, b⟩ => by
    subst q
    unfold fset putL
    dsimp only
    rw [isStr_of_string]
    by_cases e : g = f
    · subst e; simp only [decide_true, if_true]; exact ⟨t, cv, es', rfl, hv, b⟩
    · simp only [e, decide_false, Bool.false_eq_true, if_false]; exact ⟨t, cw, _, rfl, a, frel_set hv b⟩
theorem frel_len : ∀ {fs : List (String × V)} {es : List DictEntry}, FRel G ι h fs es → es.length = fs.length
  | [], _, x => by rw [show _ = [] from x]; rfl
  | _ :: _, _, ⟨_, _, _, q, _, b⟩ => by subst q; simp [frel_len b]

def attrOk (K : Frag) (C : Addr) (name : Str) : Bool := plainGet K C name && hasDictIn K C && (match findIn K (.ref C) name with | some attr => noGet K attr | none => false)
def setOk (K : Frag) (C : Addr) (name : Str) : Bool :=
  (findIn K (.ref C) "__setattr__" == some (some (.builtin "object.__setattr__"))) && plainOver K C && (takerIn K C name == some none) && hasDictIn K C
def HasF (G : Cx) (f : String) : Prop := ∀ c C, G.cls c = some C → attrOk G.K C (Str.ofString f) = true
def HasS (G : Cx) (f : String) : Prop := ∀ c C, G.cls c = some C → setOk G.K C (Str.ofString f) = true

theorem vrel_handed {v : V} {cv : Value} (r : VRel G ι h v cv) : handedIn cv = true := by
  cases v with
  | none => rw [show cv = .none from r]; rfl
  | bool b => rw [show cv = .bool b from r]; rfl
  | int i => obtain ⟨t, rfl⟩ := r; rfl
  | str y => obtain ⟨t, rfl⟩ := r; rfl
  | tup xs => obtain ⟨a, vs, rfl, _⟩ := r; rfl
  | ref i => obtain ⟨a, _, rfl⟩ := r; rfl
  | inst c i => obtain ⟨a, x, C, o, _, _, rfl, _⟩ := r; rfl
  | exc c => obtain ⟨x, C, o, _, rfl, _⟩ := r; rfl
  | scr => rw [show cv = .ref G.sa from r]; rfl

/-- an own object met: its place and its names -/
theorem inst_at (R : StOk G ι H h) {c : String} {i : Nat} {cv : Value} {fs : List (String × V)} (r : VRel G ι h (.inst c i) cv) (e : H[i]? = some (.flds fs)) :
    ∃ a x C ox es n, ι[i]? = some a ∧ G.cls c = some C ∧ cv = .ref x ∧ InstAt h x ox C (some (dictOf es n)) ∧ ox.dict = some a ∧ h.get? a = some (dictOf es n) ∧ FRel G ι h fs es := by
  obtain ⟨a, x, C, o, h1, h2, h3, h4, h5, h6, h7⟩ := r
  obtain ⟨a', es, n, g1, g2, g3⟩ := R.flds e
  obtain rfl : a = a' := Option.some.inj (h1.symm.trans g1)
  exact ⟨a, x, C, o, es, n, h1, h2, h3, ⟨h4, h5, by unfold notCls; rw [h7], by rw [h6]; exact g2⟩, h6, g2, g3⟩

def attrV (f : String) : V → Cm V
  | .inst _ i => fun q => match q.H[i]? with
    | some (.flds fs) => (match fs.lookup f with | some v => .ok v q | none => .stuck)
    | _ => .stuck
  | _ => .stk

theorem P_attr (C : CxOk G) {f : String} (hf : HasF G f) {v : V} {cv : Value} {ex : Bool} (R : Rel G A env ι q s) (h1 : VRel G ι s.heap v cv) : Sat G A env ι s (attrV f v q) (VRel G) (wpT G A (getAttr cv (Str.ofString f) ex)) := by
  unfold attrV
  split
  · rename_i c i
    split
    · rename_i fs e
      obtain ⟨a, x, C', ox, es, n, g1, g2, rfl, I, g3, g4, g5⟩ := inst_at R.st h1 e
      have hg := frel_get g5 f
      split
      · rename_i v hv
        rw [hv] at hg
        obtain ⟨cw, hl, hr⟩ := hg
        have hok := hf c C' g2
        unfold attrOk at hok
        simp only [Bool.and_eq_true] at hok
        obtain ⟨⟨k1, k2⟩, k3⟩ := hok
        split at k3
        · rename_i attr ha
          exact Sat.ret R hr fun Q E hQ => get_value (C.X.keeps R.st.keep) I (plainGet_of k1).1 (findObj_own k2 ha k3 hl) (vrel_handed hr) hQ
        · cases k3
      · trivial
    · trivial
  · trivial

theorem E_attr (C : CxOk G) {f : String} (hf : HasF G f) {e : Expr} {pos : Pos} {m : Cm V} (h1 : Ev G hq k env e m)
    (he : eval (.Attribute e (Str.ofString f) pos) env = (do let o ← eval e env; standAt pos.atName; let r ← holding [o] (getAttr o (Str.ofString f) true); letTemporaryGo e o r; pure r)) :
    Ev G hq k env (.Attribute e (Str.ofString f) pos) (m.bnd fun v => attrV f v) :=
  fun A ι q s ha R => (Sat.bnd (T' := fun v Q E s₁ => wpAny G.M A (getAttr v (Str.ofString f) true) Q E s₁) (h1 A ι q s ha R) fun a q' ι' b s' _ P hv => P_attr C hf P.rel hv).imp fun Q E x => Attribute_any_ x he

/-- a name set in the own names of an object, the heap told -/
theorem osa_raw {prog : Program} {w : World} {K : Frag} {C x dx : Addr} {ox : Obj} {R : Result → Shared → Prop} {name : Str} {tk : Tok} {v : Value} {es : List DictEntry} {n : Nat} {s : Shared} {A : Around} (X : K.In s.heap)
    (I : InstAt s.heap x ox C (some (dictOf es n))) (hd : ox.dict = some dx) (D : s.heap.get? dx = some (dictOf es n)) (hp : plainOver K C = true) (ht : takerIn K C name = some none) (hh : hasDictIn K C = true)
    (hl : (getL name es).isSome = true) (hz : (putL name (PyData.keyHash w.params name) (.str name s.toks) v es).length ≤ 1000)
    (h : ∀ h', h'.get? dx = some (dictOf (putL name (PyData.keyHash w.params name) (.str name s.toks) v es) (putN name es n)) → Heap.SameBut dx s.heap h' → R (.ok (.ret .none)) { s with heap := h', toks := s.toks + 1 }) :
    codeAny (model prog w) A (.call (.builtin "object.__setattr__") ⟨[.ref x, .str name tk, v], []⟩) R s := by
  refine osa_open X I hp ht fun b => ?_
  obtain ⟨cd, hc, hd'⟩ := any_some hh
  obtain ⟨hx, hcl, hn, -⟩ := I
  obtain ⟨oc, odi, oda, osl⟩ := ox
  dsimp only at hcl hd
  subst hcl hd
  refine wpAny_bind (wpAny_pure (wpAny_bind (wpAny_bind (wpAny_loadPart hx (wpAny_bind ((looks_clsIn X hc).here ?_))))))
  rw [hd']
  refine wpAny_pure (a := some dx) (wpAny_bind (wpAny_pure (wpAny_bind ?_)))
  unfold nsSet
  refine wpAny_bind (wpAny_bind (wpAny_askSetting (wpAny_pure (wpAny_bind (wpAny_mkText (wpAny_bind (wpAny_loadPart D ?_)))))))
  dsimp only
  have c : (!(es.toArray).any (·.key.isStr name) && (es.toArray).any (·.refKey)) = false := by
    unfold getL at hl
    split at hl
    · rename_i en he
      have : (es.toArray).any (·.key.isStr name) = true := by simpa using ⟨en, List.mem_of_find?_eq_some he, by simpa using List.find?_some he⟩
      rw [this]; rfl
    · split at hl
      · cases hl
      · rename_i z
        have : (es.toArray).any (·.refKey) = false := by simpa using z
        rw [this, Bool.and_false]
  have U := Heap.get?_update_self (h := s.heap) (Obj.putName name (PyData.keyHash w.params name) (.str name s.toks) v) D (by rw [putName_dict]; rfl)
  rw [putName_dict] at U
  rw [aRefKeyMayBeTheName_at, c]
  refine wpAny_updatePart D ?_
  refine wpAny_bind (wpAny_lookBehind U (pastItsLine_dict (by rw [List.size_toArray, sizeLine_eq]; omega)) ?_)
  exact wpAny_pure (h _ U (Heap.SameBut.update ..))

def setAttrV (f : String) (v : V) : V → Cm Unit
  | .inst _ i => fun q => match q.H[i]? with
    | some (.flds fs) => if fs.length < 100 then .ok () { q with H := q.H.set i (.flds (fset f v fs)) } else .stuck
    | _ => .stuck
  | _ => .stk
theorem fset_len (f : String) (v : V) : ∀ fs : List (String × V), (fset f v fs).length ≤ fs.length + 1
  | [] => by simp [fset]
  | (g, w) :: r => by
    unfold fset
    split
    · simp
    · simpa using fset_len f v r

theorem P_setAttr (C : CxOk G) {f : String} (hf : HasS G f) {o v : V} {co cv : Value} (R : Rel G A env ι q s) (h1 : VRel G ι s.heap o co) (h2 : VRel G ι s.heap v cv) :
    Sat G A env ι s (setAttrV f v o q) (fun _ _ _ _ => True) (wpT G A (setAttr co (Str.ofString f) cv)) := by
  unfold setAttrV
  split
  · rename_i c i
    split
    · rename_i fs e
      split
      · rename_i hlen
        obtain ⟨a, x, C', ox, es, n, g1, g2, rfl, I, g3, g4, g5⟩ := inst_at R.st h1 e
        have hok := hf c C' g2
        unfold setOk at hok
        simp only [Bool.and_eq_true, beq_iff_eq] at hok
        obtain ⟨⟨⟨k1, k2⟩, k3⟩, k4⟩ := hok
        have hg := frel_get g5 f
        have hl : (getL (Str.ofString f) es).isSome = true := by
          split at hg
          · obtain ⟨cw, hg, _⟩ := hg; rw [hg]; rfl
          · rw [hg]; rfl
        intro Q E hQ
        have fr := frel_set (tk := s.toks + 1) (f := f) h2 g5
        refine set_plain (C.X.keeps R.st.keep) I k1 (osa_raw (s := { s with toks := s.toks + 1 }) (C.X.keeps R.st.keep) I g3 g4 k2 k3 k4 hl ?_ fun h' e1 e2 => ?_)
        · show (putL _ _ (Value.str _ (s.toks + 1)) _ _).length ≤ 1000
          rw [frel_len fr]
          have := fset_len f v fs
          omega
        · exact hQ ι () _ (Post.set R g1 e2 fun im => ⟨_, _, e1, fr.mono (List.prefix_refl _) im⟩) trivial
      · trivial
    · trivial
  · trivial

theorem X_setattr (C : CxOk G) {f : String} (hf : HasS G f) {o e : Expr} {p pos : Pos} {m1 m2 : Cm V} (h1 : Ev G hq k env e m1) (h2 : Ev G hq k env o m2)
    (hs : swapsWith e (some (.Attribute o (Str.ofString f) p)) pos.line env = pure false) :
    Ex G hq k env (.Assign [.Attribute o (Str.ofString f) p] e pos) (m1.bnd fun v => m2.bnd fun o => (setAttrV f v o).bnd fun _ => .pur .next) :=
  fun A ι q s ha R => (Sat.bnd (T' := fun v Q E s₁ => wpAny G.M A (eval o env) (fun ov s₂ => wpAny G.M A (setAttr ov (Str.ofString f) v) (fun _ => Q .next) E s₂) E s₁) (h1 A ι q s ha R) fun a q' ι' b s' _ P hv =>
    Sat.bnd (T' := fun ov Q E s₁ => wpAny G.M A (setAttr ov (Str.ofString f) b) (fun _ => Q Flow.next) E s₁) (h2 A ι' q' s' ha P.rel) fun a2 q2 ι2 b2 s2 _ P2 hv2 =>
    Sat.bnd (T' := fun _ Q E s₁ => Q Flow.next s₁) (P_setAttr C hf P2.rel hv2 (P2.vrel P.rel hv)) fun a3 q3 ι3 b3 s3 _ P3 _ => Sat.ret0 P3.rel fNext fun Q E hQ => hQ).imp fun Q E x => plainObj_wpAny_Assign_Attribute x hs
end
end Mine

set_option Elab.async false
set_option linter.unusedVariables false
namespace Mine
open PySem PySem.W PyProof.Rows

section
variable {G : Cx} {hq : Bool} {k : Nat} {env : Env} {A : Around} {ι : List Addr} {q : S} {s : Shared} {H : Hp} {h : Heap}

/-! ### the script -/
theorem ints_get : ∀ {vs : List Value} {ns : List Int}, IntsAre vs ns → ∀ {i : Nat} {n : Int}, ns[i]? = some n → ∃ t, vs[i]? = some (.int n t)
  | [], [], _, i, n, e => by simp at e
  | [], _ :: _, x, _, _, _ => by cases x
  | _ :: _, [], x, _, _, _ => by cases x
  | v :: vs, n0 :: ns, x, i, n, e => by
    have hx : (∃ t, v = .int n0 t) ∧ IntsAre vs ns := by
      cases x with
      | cons a b => exact ⟨⟨_, rfl⟩, by assumption⟩
    obtain ⟨⟨t, rfl⟩, hx⟩ := hx
    cases i with
    | zero => simp at e; subst e; exact ⟨t, rfl⟩
    | succ i => simpa using ints_get hx (by simpa using e)
theorem ints_vrels : ∀ {vs : List Value} {ns : List Int}, IntsAre vs ns → VRels G ι h (ns.map .int) vs
  | [], [], _ => vNil
  | [], _ :: _, x => by cases x
  | _ :: _, [], x => by cases x
  | v :: vs, n0 :: ns, x => by
    have hx : (∃ t, v = .int n0 t) ∧ IntsAre vs ns := by
      cases x with
      | cons a b => exact ⟨⟨_, rfl⟩, by assumption⟩
    obtain ⟨⟨t, rfl⟩, hx⟩ := hx
    exact vCons (vInt _ _) (ints_vrels hx)

/-! ### items -/
def itemV (sn : List Int) (o i : V) : Cm V := fun q => match o, i with
  | .ref r, .int k => (match q.H[r]? with
    | some (.list xs) => if 0 ≤ k ∧ k < 1000000 then (match xs[k.toNat]? with | some v => .ok v q | none => .stuck) else .stuck
    | some (.dict es) => (match es.lookup k with | some v => .ok v q | none => .stuck)
    | _ => .stuck)
  | .tup xs, .int k => if 0 ≤ k ∧ k < 1000000 then (match xs[k.toNat]? with | some v => .ok v q | none => .stuck) else .stuck
  | .scr, .int k => if 0 ≤ k ∧ k < 1000000 then (match sn[k.toNat]? with | some n => .ok (.int n) q | none => .stuck) else .stuck
  | _, _ => .stuck

theorem P_item (C : CxOk G) {value slice : Expr} (hs : ∀ o i, subscripted slice false o i = operate [o, i] (getItem o i)) {o i : V} {co ci : Value} (R : Rel G A env ι q s) (h1 : VRel G ι s.heap o co) (h2 : VRel G ι s.heap i ci) :
    Sat G A env ι s (itemV G.sn o i q) (VRel G) (wpT G A (subscriptTail value slice co ci)) := by
  unfold itemV
  split
  · rename_i r k
    obtain ⟨a, ha, rfl⟩ := h1
    obtain ⟨t, rfl⟩ := h2
    split
    · rename_i xs e
      split
      · rename_i hk
        split
        · rename_i v hv
          obtain ⟨a1, n1, vs, g1, g2, g3⟩ := R.st.list e
          obtain rfl : a = a1 := Option.some.inj (ha.symm.trans g1)
          obtain ⟨cv, hcv, hr⟩ := g3.get hv
          have hl := g2.isList
          exact Sat.ret0 R hr fun Q E hQ => tail_any hl.typeIs slot_list_getitem.lookup (wpAny_getItem_list hl hk.1 (by omega) (by simpa using hcv) hQ) (hs _ _)
        · trivial
      · trivial
    · rename_i es e
      split
      · rename_i v hv
        obtain ⟨a1, kvs, g1, g2, g3⟩ := R.st.dict e
        obtain rfl : a = a1 := Option.some.inj (ha.symm.trans g1)
        have hg := drel_valueAt g3 k
        rw [hv] at hg
        obtain ⟨cv, hcv, hr⟩ := hg
        exact Sat.ret R hr fun Q E hQ => tail_any g2.mapOf.typeIs slot_dict_getitem.lookup (wpAny_getItem_of (intKind_is G.prog G.w k t) g2.mapOf hcv hQ) (hs _ _)
      · trivial
    · trivial
  · rename_i xs k
    obtain ⟨a, vs, rfl, ht, hv⟩ := h1
    obtain ⟨t, rfl⟩ := h2
    split
    · rename_i hk
      split
      · rename_i v hx
        obtain ⟨cv, hcv, hr⟩ := hv.get hx
        have hlen := (List.getElem?_eq_some_iff.mp hcv).1
        have hj : seqIndex? k vs.toArray.size = some k.toNat := by
          unfold seqIndex?
          rw [List.size_toArray]
          have : ¬ (k < 0) := by omega
          simp only [this, if_false]
          have h2 : 0 ≤ k ∧ k < (vs.length : Int) := by omega
          simp only [h2, and_self, if_true, decide_true, Bool.and_true, Bool.and_self]
        exact Sat.ret0 R hr fun Q E hQ => tail_any ht.typeIs slot_tuple_getitem.lookup (getItem_tuple ht (by omega) (by omega) hj (by simpa using hcv) hQ) (hs _ _)
      · trivial
    · trivial
  · rename_i k
    rw [show co = .ref G.sa from h1]
    obtain ⟨t, rfl⟩ := h2
    split
    · rename_i hk
      split
      · rename_i n hn
        obtain ⟨t', ht'⟩ := ints_get C.isInts hn
        have hl : s.heap.IsList G.sa G.sv.toArray := C.scr.at fun o e => R.st.keep _ _ e
        exact Sat.ret0 R (vInt n t') fun Q E hQ => tail_any hl.typeIs slot_list_getitem.lookup (wpAny_getItem_list hl hk.1 (by omega) (by simpa using ht') hQ) (hs _ _)
      · trivial
    · trivial
  · trivial

theorem E_sub (C : CxOk G) {e i : Expr} {pos : Pos} {m1 m2 : Cm V} (h1 : Ev G hq k env e m1) (h2 : Ev G hq k env i m2) (hs : ∀ o v, subscripted i false o v = operate [o, v] (getItem o v)) :
    Ev G hq k env (.Subscript e i pos) (m1.bnd fun o => m2.bnd fun v => itemV G.sn o v) :=
  fun A ι q s ha R => (Sat.bnd (h1 A ι q s ha R) fun a q' ι' b s' _ P hv => Sat.bnd (T' := fun v Q E s₁ => wpAny G.M A (subscriptTail e i b v) Q E s₁) (h2 A ι' q' s' ha P.rel) fun a2 q2 ι2 b2 s2 _ P2 hv2 =>
    P_item C hs P2.rel (P2.vrel P.rel hv) hv2).imp fun Q E x => Subscript_ x

def dset (k : Int) (v : V) (es : List (Int × V)) : List (Int × V) := if (es.lookup k).isSome then es.map (fun e => if e.1 = k then (e.1, v) else e) else es ++ [(k, v)]
def setItemV (o i v : V) : Cm Unit := fun q => match o, i with
  | .ref r, .int k => (match q.H[r]? with
    | some (.list xs) => if 0 ≤ k ∧ k < 1000000 ∧ k < xs.length then .ok () { q with H := q.H.set r (.list (xs.set k.toNat v)) } else .stuck
    | some (.dict es) => if es.length < 1000000 then .ok () { q with H := q.H.set r (.dict (dset k v es)) } else .stuck
    | _ => .stuck)
  | _, _ => .stuck

theorem drel_len : ∀ {es : List (Int × V)} {kvs : List (Int × Value)}, DRel G ι h es kvs → kvs.length = es.length
  | [], _, x => by rw [show _ = [] from x]; rfl
  | _ :: _, _, ⟨_, _, q, _, b⟩ => by subst q; simp [drel_len b]
theorem drel_map {k : Int} {v : V} {cv : Value} (hv : VRel G ι h v cv) : ∀ {es : List (Int × V)} {kvs : List (Int × Value)}, DRel G ι h es kvs → DRel G ι h (es.map (fun e => if e.1 = k then (e.1, v) else e)) (kvs.map (fun kv => if kv.1 = k then (kv.1, cv) else kv))
  | [], _, x => by rw [show _ = [] from x]; rfl
  | (k', w) :: es, _, ⟨cw, kvs', q, a, b⟩ => by
    subst q
    rw [List.map_cons, List.map_cons]
    dsimp only
    by_cases e : k' = k
    · simp only [e, if_true]; exact ⟨cv, _, rfl, hv, drel_map hv b⟩
    · simp only [e, if_false]; exact ⟨cw, _, rfl, a, drel_map hv b⟩
theorem drel_append : ∀ {es : List (Int × V)} {kvs : List (Int × Value)}, DRel G ι h es kvs → ∀ {es' : List (Int × V)} {kvs' : List (Int × Value)}, DRel G ι h es' kvs' → DRel G ι h (es ++ es') (kvs ++ kvs')
  | [], _, x, _, _, y => by rw [show _ = [] from x]; exact y
  | _ :: _, _, ⟨cv, kvs', q, a, b⟩, _, _, y => by subst q; exact ⟨cv, _, rfl, a, drel_append b y⟩
theorem drel_any {k : Int} : ∀ {es : List (Int × V)} {kvs : List (Int × Value)}, DRel G ι h es kvs → kvs.any (fun kv => kv.1 = k) = (es.lookup k).isSome
  | [], _, x => by rw [show _ = [] from x]; rfl
  | (k', w) :: es, _, ⟨cw, kvs', q, a, b⟩ => by
    subst q
    rw [List.any_cons, List.lookup_cons, drel_any b]
    dsimp only
    by_cases e : k = k'
    · subst e; simp
    · have e' : (k == k') = false := by simpa using e
      have e2 : ¬ (k' = k) := fun x => e x.symm
      rw [e']; simp [e2]
theorem drel_set {k : Int} {v : V} {cv : Value} (hv : VRel G ι h v cv) {es : List (Int × V)} {kvs : List (Int × Value)} (x : DRel G ι h es kvs) : DRel G ι h (dset k v es) (stored kvs k cv) := by
  unfold dset stored
  rw [drel_any x]
  split
  · exact drel_map hv x
  · exact drel_append x ⟨cv, [], rfl, hv, rfl⟩

theorem P_setItem (C : CxOk G) {o i v : V} {co ci cv : Value} (R : Rel G A env ι q s) (h1 : VRel G ι s.heap o co) (h2 : VRel G ι s.heap i ci) (h3 : VRel G ι s.heap v cv) :
    Sat G A env ι s (setItemV o i v q) (fun _ _ _ _ => True) (wpT G A (setItem co ci cv)) := by
  unfold setItemV
  split
  · rename_i r k
    obtain ⟨a, ha, rfl⟩ := h1
    obtain ⟨t, rfl⟩ := h2
    split
    · rename_i xs e
      split
      · rename_i hk
        obtain ⟨a1, n1, vs, g1, g2, g3⟩ := R.st.list e
        obtain rfl : a = a1 := Option.some.inj (ha.symm.trans g1)
        have hlen := g3.length
        intro Q E hQ
        refine setItem_plain g2 hk.1 (by omega) (by rw [List.size_toArray, hlen]; omega) fun h' e1 e2 => ?_
        refine hQ ι () _ (Post.set (tk := s.toks) R g1 e2 fun im => ⟨vs.set k.toNat cv, ?_, (g3.mono (List.prefix_refl _) im).set _ (h3.mono (List.prefix_refl _) im)⟩) trivial
        simpa using e1
      · trivial
    · rename_i es e
      split
      · rename_i hk
        obtain ⟨a1, kvs, g1, g2, g3⟩ := R.st.dict e
        obtain rfl : a = a1 := Option.some.inj (ha.symm.trans g1)
        intro Q E hQ
        refine wpAny_setItem_pairs (intKind_is G.prog G.w k t) g2 (fun h' e1 e2 => ?_) (by rw [drel_len g3, sizeLine_eq]; omega)
        exact hQ ι () _ (Post.set R g1 e2 fun im => ⟨_, e1, drel_set (h3.mono (List.prefix_refl _) im) (g3.mono (List.prefix_refl _) im)⟩) trivial
      · trivial
    · trivial
  · trivial
where
  setItem_plain {prog : Program} {w : World} {A : Around} {E : Value → Shared → Prop} {s : Shared} {l : Addr} {items : Array Value} {n : Nat} {k : Int} {t : Tok} {v : Value} {Q : Unit → Shared → Prop} (hl : IsL s.heap l items n)
      (h0 : 0 ≤ k) (hfit : k < 2 ^ 63) (hn : k < items.size)
      (hQ : ∀ h', h'.PlainList l (items.setIfInBounds k.toNat v) → Heap.SameBut l s.heap h' → Q () { s with heap := h' }) :
      wpAny (model prog w) A (setItem (.ref l) (.int k t) v) Q E s :=
    ki_setAt hl h0 hfit hn (hQ _ ⟨_, hl.update _⟩ (Heap.SameBut.update ..))

theorem X_setitem (C : CxOk G) {o i e : Expr} {p pos : Pos} {m1 m2 m3 : Cm V} (h1 : Ev G hq k env e m1) (h2 : Ev G hq k env o m2) (h3 : Ev G hq k env i m3)
    (hs : swapsWith e (some (.Subscript o i p)) pos.line env = pure false) :
    Ex G hq k env (.Assign [.Subscript o i p] e pos) (m1.bnd fun v => m2.bnd fun o => m3.bnd fun i => (setItemV o i v).bnd fun _ => .pur .next) :=
  fun A ι q s ha R => (Sat.bnd (T' := fun v Q E s₁ => wpAny G.M A (eval o env) (fun ov s₂ => wpAny G.M A (eval i env) (fun iv s₃ => wpAny G.M A (setItem ov iv v) (fun _ => Q Flow.next) E s₃) E s₂) E s₁) (h1 A ι q s ha R) fun a q' ι' b s' _ P hv =>
    Sat.bnd (T' := fun ov Q E s₁ => wpAny G.M A (eval i env) (fun iv s₃ => wpAny G.M A (setItem ov iv b) (fun _ => Q Flow.next) E s₃) E s₁) (h2 A ι' q' s' ha P.rel) fun a2 q2 ι2 b2 s2 _ P2 hv2 =>
    Sat.bnd (T' := fun iv Q E s₁ => wpAny G.M A (setItem b2 iv b) (fun _ => Q Flow.next) E s₁) (h3 A ι2 q2 s2 ha P2.rel) fun a3 q3 ι3 b3 s3 _ P3 hv3 =>
    Sat.bnd (T' := fun _ Q E s₁ => Q Flow.next s₁) (P_setItem C P3.rel (P3.vrel P2.rel hv2) hv3 (P3.vrel P2.rel (P2.vrel P.rel hv))) fun a4 q4 ι4 b4 s4 _ P4 _ => Sat.ret0 P4.rel fNext fun Q E hQ => hQ).imp fun Q E x => wpAny_Assign_Subscript x hs

/-! ### lists of expressions; displays -/
abbrev EvL (G : Cx) (hq : Bool) (k : Nat) (env : Env) (es : List Expr) (m : Cm (List V)) : Prop := ∀ pos, Sem.Is G hq k env (fun A => wpT G A (spliced (backTo pos (starEach es env)))) m (VRels G)
theorem EL_nil : EvL G hq k env [] (.pur []) := fun pos A ι q s ha R => Sat.ret0 R vNil fun Q E hQ => wpAny_items_nil hQ
theorem EL_cons {e : Expr} {es : List Expr} {m : Cm V} {m' : Cm (List V)} (h1 : Ev G hq k env e m) (h2 : EvL G hq k env es m') (he : starEach (e :: es) env = (false, eval e env) :: starEach es env) :
    EvL G hq k env (e :: es) (m.bnd fun v => m'.bnd fun vs => .pur (v :: vs)) :=
  fun pos A ι q s ha R => (Sat.bnd (T' := fun v Q E s₁ => wpAny G.M A (spliced (backTo pos (starEach es env))) (fun vs s₂ => Q (v :: vs) s₂) E s₁) (h1 A ι q s ha R) fun a q' ι' b s' _ P hv =>
    Sat.bnd (T' := fun vs Q E s₁ => Q (b :: vs) s₁) (h2 pos A ι' q' s' ha P.rel) fun a2 q2 ι2 b2 s2 _ P2 hv2 => Sat.ret0 P2.rel (vCons (P2.vrel P.rel hv) hv2) fun Q E hQ => hQ).imp fun Q E x => wpAny_items_cons x he

def newL (vs : List V) : Cm V := fun q => if vs.length ≤ 1000000 then .ok (.ref q.H.length) { q with H := q.H ++ [.list vs] } else .stuck
theorem E_list {es : List Expr} {pos : Pos} {m : Cm (List V)} (h1 : EvL G hq k env es m) : Ev G hq k env (.List es pos) (m.bnd fun vs => newL vs) :=
  fun A ι q s ha R => (Sat.bnd (T' := fun vs Q E s₁ => vs.length ≤ sizeLine ∧ Q (Value.ref s₁.heap.objs.size) { s₁ with heap := s₁.heap.push { cls := .type "list", data := .seq vs.toArray } }) (h1 pos A ι q s ha R) fun a q' ι' b s' _ P hv => by
    unfold newL
    split
    · rename_i hl
      refine Sat.newList (β := Value) (tk := s'.toks) P.rel hv fun Q E hQ => ⟨?_, hQ⟩
      rw [hv.length, sizeLine_eq]; omega
    · trivial).imp fun Q E x => wpAny_List x
theorem vTup_new {xs : List V} {vs : List Value} (R : Rel G A env ι q s) (hx : VRels G ι s.heap xs vs) : VRel G ι (s.heap.push { cls := .type "tuple", data := .seq vs.toArray }) (.tup xs) (.ref s.heap.objs.size) :=
  ⟨_, vs, rfl, ⟨_, Heap.get?_push_size _ rfl, rfl, 0, rfl⟩, hx.mono (List.prefix_refl _) (.of_stays (push_stays _ _))⟩
def newT (vs : List V) : Cm V := if vs.length ≤ 1000000 then .pur (.tup vs) else .stk
theorem E_tuple {es : List Expr} {kk : Nat} {pos : Pos} {m : Cm (List V)} (h1 : EvL G hq k env es m) : Ev G hq k env (.Tuple es kk pos) (m.bnd fun vs => newT vs) :=
  fun A ι q s ha R => (Sat.bnd (T' := fun vs Q E s₁ => vs.length ≤ sizeLine ∧ Q (Value.ref s₁.heap.objs.size) { s₁ with heap := s₁.heap.push { cls := .type "tuple", data := .seq vs.toArray } }) (h1 pos A ι q s ha R) fun a q' ι' b s' _ P hv => by
    unfold newT
    split
    · rename_i hl
      refine Sat.grew (tk := s'.toks) P.rel (push_stays _ _) (vTup_new P.rel hv) fun Q E hQ => ⟨?_, hQ⟩
      rw [hv.length, sizeLine_eq]; omega
    · trivial).imp fun Q E x => wpAny_Tuple x

/-! ### slices -/
def itemsOf (sn : List Int) (o : V) (H : Hp) : Option (List V) := match o with
  | .ref i => (match H[i]? with | some (.list xs) => some xs | _ => none)
  | .scr => some (sn.map .int)
  | _ => none
def dropV (sn : List Int) (o u : V) : Cm V := fun q => match itemsOf sn o q.H, u with
  | some xs, .int b => if 0 ≤ b ∧ xs.length ≤ 1000000 then .ok (.ref q.H.length) { q with H := q.H ++ [.list (xs.drop b.toNat)] } else .stuck
  | _, _ => .stuck

theorem items_at (C : CxOk G) {o : V} {co : Value} {xs : List V} (R : StOk G ι H h) (r : VRel G ι h o co) (e : itemsOf G.sn o H = some xs) : ∃ a vs, co = .ref a ∧ h.IsList a (List.toArray vs) ∧ VRels G ι h xs vs := by
  unfold itemsOf at e
  split at e
  · split at e
    · rename_i hx
      cases e
      obtain ⟨a, ha, rfl⟩ := r
      obtain ⟨a1, n1, vs, g1, g2, g3⟩ := R.list hx
      obtain rfl : a = a1 := Option.some.inj (ha.symm.trans g1)
      exact ⟨a, vs, rfl, g2.isList, g3⟩
    · cases e
  · cases e
    rw [show co = .ref G.sa from r]
    exact ⟨_, _, rfl, C.scr.at fun o e => R.keep _ _ e, ints_vrels C.isInts⟩
  · cases e

theorem slice_any {value : Expr} {lower upper : Option Expr} {p : Pos} {l : Addr} {vs : List Value} {vl vu : Value} {lo hi : Option Int} {A : Around} {E : Value → Shared → Prop} {s : Shared} {Q : Value → Shared → Prop} {prog : Program} {w : World}
    (hl : s.heap.IsList l vs.toArray) (pl : IsPart vl lo) (pu : IsPart vu hi) (hsz : vs.length ≤ sizeLine)
    (h : Q (.ref (s.heap.objs.size + 1)) { s with heap := (s.heap.push { cls := .type "slice", data := .fields #[vl, vu, .none] }).push { cls := .type "list", data := .seq (slicePick vs.toArray lo hi none) } }) :
    wpAny (model prog w) A (subscriptTail value (.Slice lower upper none p) (.ref l) (.ref s.heap.objs.size)) Q E { s with heap := s.heap.push { cls := .type "slice", data := .fields #[vl, vu, .none] } } := by
  have hl' := hl.push { cls := .type "slice", data := .fields #[vl, vu, .none] }
  refine tail_any (ops := [.ref s.heap.objs.size, .ref l]) (Heap.IsList.typeIs (s := { s with heap := s.heap.push { cls := .type "slice", data := .fields #[vl, vu, .none] } }) hl') slot_list_getitem.lookup ?_ rfl
  refine wpAny_getItem_list_slice hl' (Heap.IsSliceOf.new ..) pl pu .none (by simp) ?_ (by simpa using hsz)
  rw [Heap.size_push]
  exact h

theorem E_drop (C : CxOk G) {e u : Expr} {p pos : Pos} {m1 m2 : Cm V} (h1 : Ev G hq k env e m1) (h2 : Ev G hq k env u m2) :
    Ev G hq k env (.Subscript e (.Slice (some u) none none p) pos) (m1.bnd fun o => m2.bnd fun v => dropV G.sn o v) := by
  intro A ι q s ha R
  refine (Sat.bnd (h1 A ι q s ha R) fun a q' ι' b s' _ P hv => Sat.bnd (T' := fun v Q E s₁ => wpAny G.M A (subscriptTail e (.Slice (some u) none none p) b (.ref s₁.heap.objs.size)) Q E { s₁ with heap := s₁.heap.push { cls := .type "slice", data := .fields #[v, .none, .none] } })
    (h2 A ι' q' s' ha P.rel) fun a2 q2 ι2 b2 s2 _ P2 hv2 => ?_).imp fun Q E x => Subscript_ (wpAny_mono x (fun o s₁ y => wpAny_Slice (wpAny_mono y (fun v s₂ z => wpAny_pure (wpAny_pure z)) fun _ _ z => z)) fun _ _ y => y)
  unfold dropV
  split
  · rename_i xs n e1 hm0
    split
    · rename_i hn
      obtain ⟨t, rfl⟩ := hv2
      obtain ⟨l, vs, rfl, g1, g2⟩ := items_at C P2.rel.st (P2.vrel P.rel hv) e1
      refine Sat.alloc (tk := s2.toks) P2.rel (a := s2.heap.objs.size + 1) (h' := (s2.heap.push { cls := .type "slice", data := .fields #[.int n t, .none, .none] }).push { cls := .type "list", data := .seq (vs.drop n.toNat).toArray }) (fun b o e => Heap.get?_push_of_some _ (Heap.get?_push_of_some _ e)) (Heap.get?_none_of_le (Nat.le_succ _)) ⟨vs.drop n.toNat, ⟨0, ?_⟩, ?_⟩ (vRef_new P2.rel.st _) fun Q E hQ => ?_
      · have := Heap.get?_push_size (s2.heap.push { cls := .type "slice", data := .fields #[.int n t, .none, .none] }) (o := { cls := .type "list", data := .seq (vs.drop n.toNat).toArray }) rfl
        rwa [Heap.size_push] at this
      · exact (g2.drop n.toNat).mono (List.prefix_append _ _) (.of_stays fun b o e => Heap.get?_push_of_some _ (Heap.get?_push_of_some _ e))
      · refine slice_any g1 (.int n t) .none (by rw [g2.length, sizeLine_eq]; omega) ?_
        have := slicePick_from' vs.toArray n.toNat
        rw [Int.toNat_of_nonneg hn.1] at this
        rw [this]
        exact hQ
    · trivial
  · trivial
end
end Mine

set_option Elab.async false
set_option linter.unusedVariables false
namespace Mine
open PySem PySem.W PyProof.Rows

structure CPost (G : Cx) (A : Around) (ι : List Addr) (s : Shared) (ι' : List Addr) (H' : Hp) (s' : Shared) : Prop where
  pre : ι <+: ι'
  st : StOk G ι' H' s'.heap
  fs : FsOk G (A.frames.getD []) ι' s'.heap
  kp : Kp ι (frs A) s.heap s'.heap
  new : ∀ a ∈ ι', a ∈ ι ∨ s.heap.get? a = none
  gens : s'.gens = #[]
  os : s'.os = G.os

structure CXPost (G : Cx) (A : Around) (ι : List Addr) (s : Shared) (c : String) (ι' : List Addr) (H' : Hp) (s' : Shared) (ev : Value) : Prop where
  pre : ι <+: ι'
  ex : ∃ e C B a0, ev = .ref e ∧ G.xcl c = some C ∧ Heap.FlyingW B (A.frames.getD []) e (.ref C) a0 s'.heap ∧ StOk G ι' H' B ∧ FsOk G (A.frames.getD []) ι' s'.heap ∧
    (∀ a o, s.heap.get? a = some o → a ∉ ι → a ∉ frs A → B.get? a = some o)
  size : Dom s.heap s'.heap
  up : ∀ a o, s.heap.get? a = some o → a ∉ ι → ∃ sl, s'.heap.get? a = some { o with slots := sl }
  new : ∀ a ∈ ι', a ∈ ι ∨ s.heap.get? a = none
  gens : s'.gens = #[]
  os : s'.os = G.os

def FnOk (G : Cx) (hq : Bool) (k : Nat) (f : Addr) (F : Fc) : Prop :=
  ∀ A ι H s vs cvs, ROk hq k A → (∃ fs, A.frames = some fs) → StOk G ι H s.heap → FsOk G (A.frames.getD []) ι s.heap → s.gens = #[] → s.os = G.os → VRels G ι s.heap vs cvs →
    match F vs H with
    | .ok v H' => ∀ R : Result → Shared → Prop, (∀ ι' cv s', CPost G A ι s ι' H' s' → VRel G ι' s'.heap v cv → R (.ok (.ret cv)) s') → codeAny G.M A (.call (.ref f) ⟨cvs, []⟩) R s
    | .exc c H' => ∀ R : Result → Shared → Prop, (∀ ι' ev s', CXPost G A ι s c ι' H' s' ev → R (.error ev) s') → codeAny G.M A (.call (.ref f) ⟨cvs, []⟩) R s
    | .stuck => True

section
variable {G : Cx} {hq : Bool} {k : Nat} {env : Env} {A : Around} {ι ι' : List Addr} {q : S} {s s' : Shared} {H H' : Hp} {h : Heap}

theorem ROk.mono {k' : Nat} (x : ROk hq k A) (hk : k' ≤ k) : ROk hq k' A := ⟨x.hd, by have := x.depth; omega, by have := x.units; omega⟩
theorem FnOk.mono {f : Addr} {F : Fc} {k' : Nat} (x : FnOk G hq k f F) (hk : k ≤ k') : FnOk G hq k' f F := fun A ι H s vs cvs r => x A ι H s vs cvs (r.mono hk)

/-- the frame stays, whatever its callee did -/
theorem frames_mut (R : FsOk G (A.frames.getD []) ι h) {a : Addr} (ha : a ∈ frs A) : ∃ o, h.get? a = some o ∧ ∃ es n, o.data = .dict es n := by
  obtain ⟨e, he, hf⟩ := List.mem_filterMap.mp ha
  obtain ⟨_, L, o, h1, h2, h3, _⟩ := R e he
  obtain rfl : L = a := Option.some.inj (h1.symm.trans hf)
  exact ⟨o, h2, h3⟩

theorem FrOk.after (R : Rel G A env ι q s) {hv hl : Heap} (pre : ι <+: ι') (new : ∀ a ∈ ι', a ∈ ι ∨ s.heap.get? a = none)
    (up : ∀ a o, s.heap.get? a = some o → a ∉ ι → ∃ sl, hl.get? a = some { o with slots := sl })
    (ex : ∀ a o, s.heap.get? a = some o → a ∉ ι → a ∉ frs A → hv.get? a = some o) : FrOk G env q.l ι' hv hl := by
  have im : Imm s.heap hv := fun a o e hm => ⟨o.slots, ex a o e (fun hi => by
      obtain ⟨o', e', hm'⟩ := R.st.mut hi
      rw [e] at e'; cases e'; exact hm hm') fun hf => by
      obtain ⟨o', e', es, n, hd⟩ := frames_mut R.fs hf
      rw [e] at e'; cases e'; exact hm (.inr (.inl ⟨es, n, hd⟩))⟩
  have cellEx : ∀ c o v, s.heap.get? c = some o → o.data = .cell v → c ∈ own env → hv.get? c = some o := fun c o v e hd ho => ex c o e (R.fr.dis c ho) fun hf => by
      obtain ⟨o', e', es, n, hd'⟩ := frames_mut R.fs hf
      rw [e] at e'; cases e'; rw [hd] at hd'; cases hd'
  refine ⟨R.fr.kind, R.fr.glob, R.fr.blt, ?_, ?_, ?_, R.fr.ndup, ?_, R.fr.fresh⟩
  · obtain ⟨m, ⟨o, es, ep, ho, hd, r⟩, hm⟩ := R.fr.loc
    obtain ⟨sl, hs⟩ := up env.locals o ho (R.fr.dis _ (.head _))
    exact ⟨m, ⟨_, es, ep, hs, hd, r⟩, fun y v e e2 => let ⟨cv, a, b⟩ := hm y v e e2; ⟨cv, a, b.mono pre im⟩⟩
  · intro y v e e2
    obtain ⟨c, o, cv, h1, h2, h3, h4⟩ := R.fr.cel y v e e2
    exact ⟨c, o, cv, h1, cellEx c o _ h2 h3 (List.mem_cons_of_mem _ (List.mem_map.mpr ⟨_, mem_of_lookup h1, rfl⟩)), h3, h4.mono pre im⟩
  · intro p hp
    obtain ⟨o, ov, h1, h2⟩ := R.fr.cells p hp
    exact ⟨o, ov, cellEx p.2 o _ h1 h2 (List.mem_cons_of_mem _ (List.mem_map.mpr ⟨p, hp, rfl⟩)), h2⟩
  · intro a ha hi
    rcases new a hi with h1 | h1
    · exact R.fr.dis a ha h1
    · obtain ⟨o, e, _⟩ := R.fr.mut (fun _ _ e => e) ha
      rw [h1] at e; cases e

theorem Post.ofC (R : Rel G A env ι q s) (c : CPost G A ι s ι' H' s') : Post G A env ι s ι' ⟨q.l, H'⟩ s' where
  pre := c.pre
  rel := ⟨c.st, FrOk.after R c.pre c.new c.kp.up c.kp.ex, c.fs, c.gens, c.os⟩
  kp := ⟨c.kp.size, fun a o e hW => c.kp.up a o e fun h => hW (List.mem_append_right _ h), fun a o e hW hf => c.kp.ex a o e (fun h => hW (List.mem_append_right _ h)) hf⟩
  new := c.new

theorem XPost.ofC {c : String} {ev : Value} (ha : AOk hq k A env) (R : Rel G A env ι q s) (x : CXPost G A ι s c ι' H' s' ev) : XPost G A env ι s c ι' ⟨q.l, H'⟩ s' ev where
  pre := x.pre
  ex := by
    obtain ⟨e, C, B, a0, h1, h2, h3, h4, h5, h6⟩ := x.ex
    obtain ⟨fenv, rest, f1, f2, _⟩ := ha.fr
    have hm : fenv ∈ A.frames.getD [] := by rw [f1]; exact .head _
    obtain ⟨_, L, o, g1, _⟩ := R.fs fenv hm
    refine ⟨e, C, B, L, h1, h2, by rw [← f2]; exact g1, ?_, h4, FrOk.after R x.pre x.new x.up h6, h5, fun a o e' hW hf => h6 a o e' (fun h => hW (List.mem_append_right _ h)) hf⟩
    obtain ⟨b1, b2, b3, oe, vs, T, oT, ts, c1, ⟨c2, c2'⟩, c3, c4, c5, c6, c7, c8, c9⟩ := h3
    exact ⟨b1, b2, b3, oe, vs, a0, c1, c2, c3, c2', .inr ⟨T, oT, ts, .none, c4, c5, c6, c7, c8, c9, .inl rfl⟩⟩
  size := x.size
  up := fun a o e hW => x.up a o e fun h => hW (List.mem_append_right _ h)
  new := x.new
  gens := x.gens
  os := x.os

def callF (F : Fc) (vs : List V) : Cm V := fun q => match F vs q.H with
  | .ok v H' => .ok v ⟨q.l, H'⟩
  | .exc c H' => .exc c ⟨q.l, H'⟩
  | .stuck => .stuck

abbrev wantV (Q : Value → Shared → Prop) (E : Value → Shared → Prop) : Result → Shared → Prop := fun r s' => match r with | .ok (.ret v) => Q v s' | .ok _ => False | .error e => E e s'

theorem P_call {f : Addr} {F : Fc} {k0 : Nat} (hF : FnOk G hq k0 f F) (hk : k0 ≤ k) (ha : AOk hq k A env) (R : Rel G A env ι q s) {vs : List V} {cvs : List Value} (hv : VRels G ι s.heap vs cvs) :
    Sat G A env ι s (callF F vs q) (VRel G) (fun Q E s => codeAny G.M A (.call (.ref f) ⟨cvs, []⟩) (wantV Q E) s) := by
  have hr := hF A ι q.H s vs cvs (ha.toROk.mono hk) (let ⟨fenv, rest, h1, _⟩ := ha.fr; ⟨_, h1⟩) R.st R.fs R.gens R.os hv
  unfold callF
  cases h : F vs q.H with
  | stuck => trivial
  | ok v H' => rw [h] at hr; exact fun Q E hQ => hr _ fun ι' cv s' c r => hQ ι' cv s' (Post.ofC R c) r
  | exc c H' => rw [h] at hr; exact fun Q E hQ => hr _ fun ι' ev s' x => hQ ι' ev s' (XPost.ofC ha R x)

theorem evalArgs_any {M : Model} {A : Around} {E : Value → Shared → Prop} {s : Shared} {f : Value} {Q : Args → Shared → Prop} : ∀ {args : List (Bool × Sem Value)}, args.any (·.1) = false →
    wpAny M A (spliced args) (fun vs s' => Q ⟨vs, []⟩ s') E s → wpAny M A (evalArgs f true args []) Q E s
  | [], _, h => by
    unfold evalArgs
    show wpAny M A (spliced [] >>= _) Q E s
    refine wpAny_bind (wpAny_mono h (fun vs s' h' => ?_) fun _ _ x => x)
    refine wpAny_bind (wpAny_pure ?_)
    refine wpAny_holding ?_
    exact wpAny_bind (wpAny_pure (wpAny_bind (wpAny_pure (wpAny_pure h'))))
  | (false, x) :: rest, _, h => Calls.evalArgs_plain h
  | (true, x) :: rest, hp, _ => by simp at hp

/-- a call of a def of the text, by its global name -/
theorem E_call (C : CxOk G) {x : String} {f : Addr} {F : Fc} {k0 : Nat} {es : List Expr} {p pos : Pos} {m : Cm (List V)} (hx : env.kindOf (Str.ofString x) = some .globalImplicit)
    (hv : nsIn G.K mainGlobals (Str.ofString x) = some (some (.ref f))) (hfn : fnIn G.K f = true) (hd : (Str.ofString x == ("__debug__" : Str)) = false) (hF : FnOk G hq k0 f F) (hk : k0 ≤ k) (h1 : EvL G hq k env es m)
    (hp : (backTo pos (starEach es env)).any (·.1) = false) :
    Ev G hq k env (.Call (.Name (Str.ofString x) p) es [] pos) (m.bnd fun vs => callF F vs) := by
  intro A ι q s ha R
  unfold fnIn at hfn
  split at hfn
  · rename_i oc od fd sl hl
    refine (Sat.bnd (T' := fun vs Q E s₁ => s₁.heap.get? f = some ⟨oc, od, .func fd, sl⟩ ∧ codeAny G.M A (.call (.ref f) ⟨vs, []⟩) (wantV Q E) s₁) (h1 pos A ι q s ha R) fun a q' ι' b s' _ P hv =>
      (P_call hF hk ha P.rel hv).imp fun Q E z => ⟨P.rel.st.keep _ _ (C.X _ _ hl), z⟩).imp fun Q E y => ?_
    show wpAny G.M A (do callWith pos (← eval (.Name (Str.ofString x) p) env) [] (backTo pos (starEach es env)) []) Q E s
    refine wpAny_bind (glob_load C R hx hv hd ?_)
    exact Calls.callWith_function (evalArgs_any hp (wpAny_mono y (fun vs s₁ z => ⟨⟨z.1, rfl⟩, wpAny_call z.2⟩) fun _ _ z => z))
  · cases hfn
end
end Mine

set_option Elab.async false
set_option linter.unusedVariables false
namespace Mine
open PySem PySem.W PyProof.Rows

section
variable {G : Cx} {hq : Bool} {k : Nat} {env : Env} {A : Around} {ι ι' : List Addr} {q : S} {s s' : Shared} {H H' : Hp} {h : Heap}

/-! ### methods -/
theorem call_method {M : Model} {A : Around} {E : Value → Shared → Prop} {s : Shared} {o : Expr} {name : Str} {apos pos : Pos} {args : List Expr} {Q : Value → Shared → Prop}
    (hbase : attributeBase o name env (eval o env) = eval o env) (hform : methodCallForm args.length (backTo pos (starEach args env)) [] = true) (hline : (apos.endLine == pos.line) = true)
    (h : wpAny M A (eval o env) (fun ov s₁ => wpAny M A (getMethod ov name (do return (← importBound o env).getD true)) (fun fp s₂ => wpAny M A (callWith pos fp.1 fp.2 (backTo pos (starEach args env)) []) Q E s₂) E s₁) E s) :
    wpAny M A (eval (.Call (.Attribute o name apos) args [] pos) env) Q E s := by
  rw [arm_eval_Call, hbase]
  refine wpAny_bind (wpAny_mono h (fun ov s₁ h₁ => wpAny_bind (wpAny_standAt ?_)) fun _ _ e => e)
  have hform' : methodCallForm (args.length + ([] : List Keyword).length) (backTo pos (starEach args env)) (backToKw pos (keywordEach [] env)) = true := hform
  have hpos : methodCallPos true o env apos pos = pure pos := by unfold methodCallPos; simp [hline]
  unfold methodCall
  rw [hform']
  show wpAny M A (holding [ov] (getMethod ov name _) >>= _) Q E s₁
  exact wpAny_bind (wpAny_holding (wpAny_mono h₁ (fun fp s₂ h₂ => wpAny_bind (wpAny_of_eq hpos h₂)) fun _ _ e => e))

def methOk (K : Frag) (C f : Addr) (name : Str) : Bool := plainGet K C name && (findIn K (.ref C) name == some (some (.ref f))) && isFn K (.ref f) && fnIn K f

/-- the method is there, and no field hides it -/
def methV (c0 f : String) (v : V) : Cm Unit := fun q => match v with
  | .inst c i => if c = c0 then (match q.H[i]? with
    | some (.flds fs) => (match fs.lookup f with | some _ => .stuck | none => .ok () q)
    | _ => .stuck) else .stuck
  | _ => .stuck
theorem methV_ok {c0 f : String} {v : V} {q : S} : methV c0 f v q = .stuck ∨ (methV c0 f v q = .ok () q ∧ ∃ i fs, v = .inst c0 i ∧ q.H[i]? = some (.flds fs) ∧ fs.lookup f = none) := by
  unfold methV
  split
  · rename_i c i
    split
    · rename_i hc
      subst hc
      split
      · rename_i fs e
        split
        · exact .inl rfl
        · rename_i hn; exact .inr ⟨rfl, i, fs, rfl, e, hn⟩
      · exact .inl rfl
    · exact .inl rfl
  · exact .inl rfl

theorem E_meth (C : CxOk G) {c0 name : String} {C0 f : Addr} {F : Fc} {k0 : Nat} {o : Expr} {es : List Expr} {apos pos : Pos} {m0 : Cm V} {m : Cm (List V)} (hc : G.cls c0 = some C0) (hok : methOk G.K C0 f (Str.ofString name) = true)
    (hF : FnOk G hq k0 f F) (hk : k0 ≤ k) (h0 : Ev G hq k env o m0) (h1 : EvL G hq k env es m)
    (hbase : attributeBase o (Str.ofString name) env (eval o env) = eval o env) (hform : methodCallForm es.length (backTo pos (starEach es env)) [] = true) (hline : (apos.endLine == pos.line) = true)
    (hp : (backTo pos (starEach es env)).any (·.1) = false) :
    Ev G hq k env (.Call (.Attribute o (Str.ofString name) apos) es [] pos) (m0.bnd fun v => (methV c0 name v).bnd fun _ => m.bnd fun vs => callF F (v :: vs)) := by
  intro A ι q s ha R
  unfold methOk at hok
  simp only [Bool.and_eq_true, beq_iff_eq] at hok
  obtain ⟨⟨⟨k1, k2⟩, k3⟩, k4⟩ := hok
  unfold fnIn at k4
  split at k4
  · rename_i oc od fd sl hl
    refine (Sat.bnd (T' := fun ov Q E s₁ => wpAny G.M A (getMethod ov (Str.ofString name) (do return (← importBound o env).getD true)) (fun fp s₂ => wpAny G.M A (callWith pos fp.1 fp.2 (backTo pos (starEach es env)) []) Q E s₂) E s₁)
      (h0 A ι q s ha R) fun v q' ι' b s' _ P hv => ?_).imp fun Q E y => call_method hbase hform hline y
    rcases methV_ok (c0 := c0) (f := name) (v := v) (q := q') with hst | ⟨hok, i, fs, rfl, e, hnone⟩
    · rw [bnd_stuck hst]; trivial
    · rw [bnd_ok hok]
      obtain ⟨a, x, C', ox, es', n, g1, g2, rfl, I, g3, g4, g5⟩ := inst_at P.rel.st hv e
      have hgl := frel_get g5 name
      rw [hnone] at hgl
      obtain rfl : C' = C0 := Option.some.inj (g2.symm.trans hc)
      refine (Sat.bnd (T' := fun vs Q E s₁ => s₁.heap.get? f = some ⟨oc, od, .func fd, sl⟩ ∧ codeAny G.M A (.call (.ref f) ⟨.ref x :: vs, []⟩) (wantV Q E) s₁) (h1 pos A ι' q' s' ha P.rel) fun vs q2 ι2 b2 s2 _ P2 hv2 => ?_).imp fun Q E y => ?_
      · exact (P_call hF hk ha P2.rel (vCons (P2.vrel P.rel hv) hv2)).imp fun Q E z => ⟨P2.rel.st.keep _ _ (C.X _ _ hl), z⟩
      · refine method_fn (C.X.keeps P.rel.st.keep) I (plainGet_of k1).1 (plainGet_of k1).2 k2 (beq_iff_eq.mp k3) (by show (lookIn _ (dictOf es' n)).map _ = _; rw [lookIn_dict, hgl]; rfl) ?_
        exact Calls.callWith_function (evalArgs_any hp (wpAny_mono y (fun vs s₁ z => ⟨⟨z.1, rfl⟩, wpAny_call z.2⟩) fun _ _ z => z))
  · cases k4

/-! ### methods of lists and dicts -/
def kindV (o : V) : Cm Bool := fun q => match o with
  | .ref i => (match q.H[i]? with | some (.list _) => .ok true q | some (.dict _) => .ok false q | _ => .stuck)
  | _ => .stuck
def appendV (o v : V) : Cm V := fun q => match o with
  | .ref i => (match q.H[i]? with
    | some (.list xs) => if xs.length < 1000000 then .ok .none { q with H := q.H.set i (.list (xs ++ [v])) } else .stuck
    | _ => .stuck)
  | _ => .stuck
def indexV (o v : V) : Cm V := fun q => match o with
  | .ref i => (match q.H[i]? with
    | some (.list xs) => (match toD q.H 8 v, mapO (toD q.H 8) xs with
      | some d, some ds => if (SeqAt.shaped d = true ∧ SeqAt.shaped (.list ds) = true) ∧ ds.length ≤ 1000000 ∧ ds.findIdx (fun y => PyData.eqv y d) < ds.length then .ok (.int (ds.findIdx fun y => PyData.eqv y d)) q else .stuck
      | _, _ => .stuck)
    | _ => .stuck)
  | _ => .stuck
def meth0V (name : String) (kd : Bool) (o : V) : Cm V := fun q => match o with
  | .ref i => (match kd, name, q.H[i]? with
    | true, "clear", some (.list xs) => if xs.length ≤ 1000000 then .ok .none { q with H := q.H.set i (.list []) } else .stuck
    | _, _, _ => .stuck)
  | _ => .stuck

theorem kindV_ok {o : V} {q : S} : kindV o q = .stuck ∨ (∃ i xs, o = .ref i ∧ q.H[i]? = some (.list xs) ∧ kindV o q = .ok true q) ∨ (∃ i es, o = .ref i ∧ q.H[i]? = some (.dict es) ∧ kindV o q = .ok false q) := by
  unfold kindV
  split
  · rename_i i
    split
    · rename_i xs e; exact .inr (.inl ⟨i, xs, rfl, e, rfl⟩)
    · rename_i es e; exact .inr (.inr ⟨i, es, rfl, e, rfl⟩)
    · exact .inl rfl
  · exact .inl rfl

theorem eqAt_all (ha : ∃ hq k, AOk hq k A env) (R : Rel G A env ι q s) {v : V} {cv : Value} {xs : List V} {vs : List Value} {d : PyData} {ds : List PyData} (h1 : VRel G ι s.heap v cv) (h2 : VRels G ι s.heap xs vs)
    (e1 : toD q.H 8 v = some d) (e2 : mapO (toD q.H 8) xs = some ds) (s1 : SeqAt.shaped d = true) (s2 : SeqAt.shaped (.list ds) = true) :
    (∀ y, y ∈ vs.toArray → SeqAt.EqAt A.in1 s y cv (PyData.eqv (SeqAt.readOf s.heap y) d)) ∧ vs.map (SeqAt.readOf s.heap) = ds := by
  have hu := AOk.units_lt ha
  obtain ⟨as, r1⟩ := reads_of R.st h1 e1
  obtain ⟨bs, r2⟩ := readsAll_of (reads_of R.st) h2 e2
  have c2 : PyData.canLayAll0 ds = true := SeqAt.canLay_of_shaped s2
  exact ⟨SeqAt.items_eqAt (by simpa using r2) r1 c2 (SeqAt.canLay_of_shaped s1) (room_in_shaped s1 (by omega)), SeqAt.readsAll_map _ _ _ c2 r2⟩

theorem findIdx_at {α : Type} (p : α → Bool) : ∀ (l : List α), l.findIdx p < l.length → (∃ x, l[l.findIdx p]? = some x ∧ p x = true) ∧ ∀ m, m < l.findIdx p → ∀ y, l[m]? = some y → p y = false := by
  intro l hl
  refine ⟨⟨l[l.findIdx p], by simp, List.findIdx_getElem⟩, fun m hm y hy => ?_⟩
  obtain ⟨h1, rfl⟩ := List.getElem?_eq_some_iff.mp hy
  have := List.not_of_lt_findIdx hm
  simpa using this

theorem P_append (C : CxOk G) {o v : V} {co cv : Value} (ha : ∃ hq k, AOk hq k A env) (R : Rel G A env ι q s) (h1 : VRel G ι s.heap o co) (h2 : VRel G ι s.heap v cv) :
    Sat G A env ι s (appendV o v q) (VRel G) (wpT G A (call (.builtin "list.append") [co, cv])) := by
  unfold appendV
  split
  · rename_i i
    obtain ⟨a, hi, rfl⟩ := h1
    split
    · rename_i xs e
      split
      · rename_i hl
        obtain ⟨a1, n1, vs, g1, g2, g3⟩ := R.st.list e
        obtain rfl : a = a1 := Option.some.inj (hi.symm.trans g1)
        refine Sat.set (tk := s.toks) R g1 (Heap.SameBut.update s.heap a (Obj.mapSeq fun x => x.push cv)) (fun im => ⟨vs ++ [cv], ?_, (g3.mono (List.prefix_refl _) im).append (vCons (h2.mono (List.prefix_refl _) im) vNil)⟩) (fun im => vNone) fun Q E hQ => ?_
        · have := g2.update fun x => x.push cv
          exact ⟨_, by simpa using this⟩
        · exact call_meets F.slot_list_append ⟨_, g2, rfl⟩ F.entry_list_append (F.args_list_append_2 _ _) (list_append a vs.toArray n1 cv (by rw [List.size_toArray, g3.length, sizeLine_eq]; omega)) ⟨g2, hQ⟩
      · trivial
    · trivial
  · trivial

theorem P_index (C : CxOk G) {o v : V} {co cv : Value} (ha : ∃ hq k, AOk hq k A env) (R : Rel G A env ι q s) (h1 : VRel G ι s.heap o co) (h2 : VRel G ι s.heap v cv) :
    Sat G A env ι s (indexV o v q) (VRel G) (wpT G A (call (.builtin "list.index") [co, cv])) := by
  unfold indexV
  split
  · rename_i i
    obtain ⟨a, hi, rfl⟩ := h1
    split
    · rename_i xs e
      split
      · rename_i d ds e1 e2
        split
        · rename_i hc
          obtain ⟨⟨s1, s2⟩, l1, l2⟩ := hc
          obtain ⟨a1, n1, vs, g1, g2, g3⟩ := R.st.list e
          obtain rfl : a = a1 := Option.some.inj (hi.symm.trans g1)
          obtain ⟨k1, k2⟩ := eqAt_all ha R h2 g3 e1 e2 s1 s2
          have hlen : vs.length = ds.length := by rw [← k2, List.length_map]
          have hj : ds.findIdx (fun y => PyData.eqv y d) < vs.toArray.size := by rw [List.size_toArray, hlen]; exact l2
          obtain ⟨⟨x, hx, hpx⟩, hno⟩ := findIdx_at _ ds l2
          have key : ∀ m (hm : m < vs.length), ds[m]? = some (SeqAt.readOf s.heap vs[m]) := fun m hm => by rw [← k2]; simp [hm]
          refine Sat.ret R (vInt _ _) fun Q E hQ => call_meets F.slot_list_index ⟨_, g2, rfl⟩ F.entry_list_index (F.args_list_index_2 _ _)
            (SeqAt.list_indexAt a vs.toArray n1 none #[] cv (fun y => PyData.eqv (SeqAt.readOf s.heap y) d) (ds.findIdx fun y => PyData.eqv y d) hj (by omega) ?_ fun m hm hlt => ?_) ⟨g2, k1, hQ⟩
          · have := key (ds.findIdx fun y => PyData.eqv y d) (by rw [hlen]; exact l2)
            rw [hx] at this
            simp only [List.getElem_toArray]; rw [← Option.some.inj this]; exact hpx
          · have := key m (by simpa using hm)
            exact hno m hlt _ this
        · trivial
      · trivial
    · trivial
  · trivial

theorem P_meth0 (C : CxOk G) {name : String} {kd : Bool} {o : V} {co : Value} (R : Rel G A env ι q s) (h1 : VRel G ι s.heap o co) :
    Sat G A env ι s (meth0V name kd o q) (VRel G) (wpT G A (call (.builtin ((if kd then "list." else "dict.") ++ name)) [co])) := by
  unfold meth0V
  split
  · rename_i i
    obtain ⟨a, hi, rfl⟩ := h1
    split
    · rename_i xs e
      split
      · rename_i hl
        obtain ⟨a1, n1, vs, g1, g2, g3⟩ := R.st.list e
        obtain rfl : a = a1 := Option.some.inj (hi.symm.trans g1)
        refine Sat.set (tk := s.toks) R g1 (Heap.SameBut.update s.heap a (Obj.mapSeq fun _ => #[])) (fun im => ⟨[], ⟨_, g2.update fun _ => #[]⟩, vNil⟩) (fun im => vNone) fun Q E hQ => ?_
        exact call_meets F.slot_list_clear ⟨_, g2, rfl⟩ F.entry_list_clear (F.args_list_clear_1 _) (AutoSeq1.list_clear_list_0 a vs.toArray n1 (by rw [List.size_toArray, g3.length, sizeLine_eq]; omega)) ⟨g2, hQ⟩
      · trivial
    · trivial
  · trivial

/-- the names of list and dict methods that are served -/
structure BMeth (name : String) (kd : Bool) : Prop where
  slot : Slot (if kd then "list" else "dict") (Str.ofString name) ((if kd then "list." else "dict.") ++ name)
  ty : typeOf (.builtin ((if kd then "list." else "dict.") ++ name)) = pure (.type "method_descriptor")
theorem bm_append : BMeth "append" true := ⟨F.slot_list_append, F.type_list_append⟩
theorem bm_index : BMeth "index" true := ⟨F.slot_list_index, F.type_list_index⟩
theorem bm_clear : BMeth "clear" true := ⟨F.slot_list_clear, F.type_list_clear⟩
theorem get_bm {name : String} {kd : Bool} (B : BMeth name kd) {o : V} {co : Value} (R : Rel G A env ι q s) (h1 : VRel G ι s.heap o co) (hk : kindV o q = .ok kd q) {pl : Sem Bool} {Q : Value × List Value → Shared → Prop} {E : Value → Shared → Prop}
    (h : Q (.builtin ((if kd then "list." else "dict.") ++ name), [co]) s) : wpAny G.M A (getMethod co (Str.ofString name) pl) Q E s := by
  rcases kindV_ok (o := o) (q := q) with hst | ⟨i, xs, rfl, e, hk'⟩ | ⟨i, es, rfl, e, hk'⟩
  · rw [hst] at hk; cases hk
  · rw [hk'] at hk; cases hk
    obtain ⟨a1, n1, vs, g1, g2, g3⟩ := R.st.list e
    obtain ⟨a, hi, rfl⟩ := h1
    obtain rfl : a = a1 := Option.some.inj (hi.symm.trans g1)
    exact getMethod_builtin ⟨_, g2, rfl⟩ F.plainAttrs_list B.slot B.ty (fun b e => by cases e; exact ⟨_, g2, rfl⟩) h
  · rw [hk'] at hk; cases hk
    obtain ⟨a1, kvs, g1, g2, g3⟩ := R.st.dict e
    obtain ⟨a, hi, rfl⟩ := h1
    obtain rfl : a = a1 := Option.some.inj (hi.symm.trans g1)
    exact getMethod_builtin g2.mapOf.typeIs F.plainAttrs_dict B.slot B.ty g2.mapOf.noDict h

/-- a method of one argument, of lists (kd) or of dicts -/
theorem E_bm1 (C : CxOk G) {name : String} (kd : Bool) {f : V → V → Cm V} (B : BMeth name kd)
    (hP : ∀ {A : Around} {ι : List Addr} {q : S} {s : Shared} {o v : V} {co cv : Value}, (∃ hq k, AOk hq k A env) → Rel G A env ι q s → VRel G ι s.heap o co → VRel G ι s.heap v cv → Sat G A env ι s (f o v q) (VRel G) (wpT G A (call (.builtin ((if kd then "list." else "dict.") ++ name)) [co, cv])))
    {o e : Expr} {apos pos : Pos} {m0 m1 : Cm V} (h0 : Ev G hq k env o m0) (h1 : Ev G hq k env e m1)
    (hbase : attributeBase o (Str.ofString name) env (eval o env) = eval o env) (hform : methodCallForm 1 (backTo pos (starEach [e] env)) [] = true) (hline : (apos.endLine == pos.line) = true)
    (he : starEach [e] env = (false, eval e env) :: starEach [] env) (hp : (backTo pos (starEach [e] env)).any (·.1) = false) :
    Ev G hq k env (.Call (.Attribute o (Str.ofString name) apos) [e] [] pos) (m0.bnd fun o => (kindV o).bnd fun kd' => if kd' = kd then m1.bnd fun v => f o v else .stk) := by
  intro A ι q s ha R
  refine (Sat.bnd (T' := fun ov Q E s₁ => wpAny G.M A (getMethod ov (Str.ofString name) (do return (← importBound o env).getD true)) (fun fp s₂ => wpAny G.M A (callWith pos fp.1 fp.2 (backTo pos (starEach [e] env)) []) Q E s₂) E s₁)
      (h0 A ι q s ha R) fun v q' ι' b s' _ P hv => ?_).imp fun Q E y => call_method hbase hform hline y
  have fin : kindV v q' = .ok kd q' → Sat G A env ι' s' ((m1.bnd fun w => f v w) q') (VRel G) (fun Q E s₁ => wpAny G.M A (getMethod b (Str.ofString name) (do return (← importBound o env).getD true)) (fun fp s₂ => wpAny G.M A (callWith pos fp.1 fp.2 (backTo pos (starEach [e] env)) []) Q E s₂) E s₁) := by
    intro hk
    refine (Sat.bnd (T' := fun w Q E s₁ => wpAny G.M A (call (.builtin ((if kd then "list." else "dict.") ++ name)) [b, w]) Q E s₁) (h1 A ι' q' s' ha P.rel) fun w q2 ι2 b2 s2 _ P2 hv2 => hP ⟨_, _, ha⟩ P2.rel (P2.vrel P.rel hv) hv2).imp fun Q E y => ?_
    refine get_bm B P.rel hv hk (Calls.callWith_builtin hp (evalArgs_any hp (wpAny_items_cons (wpAny_mono y (fun w s₁ z => wpAny_items_nil z) fun _ _ z => z) he)))
  rcases kindV_ok (o := v) (q := q') with hst | ⟨i, xs, rfl, e', hk'⟩ | ⟨i, es, rfl, e', hk'⟩
  · rw [bnd_stuck hst]; trivial
  · rw [bnd_ok hk']
    by_cases hb : true = kd
    · rw [if_pos hb]; exact fin (hb ▸ hk')
    · rw [if_neg hb]; trivial
  · rw [bnd_ok hk']
    by_cases hb : false = kd
    · rw [if_pos hb]; exact fin (hb ▸ hk')
    · rw [if_neg hb]; trivial
theorem E_bm0 (C : CxOk G) {name : String} (B1 : BMeth name true) {o : Expr} {apos pos : Pos} {m0 : Cm V} (h0 : Ev G hq k env o m0)
    (hbase : attributeBase o (Str.ofString name) env (eval o env) = eval o env) (hline : (apos.endLine == pos.line) = true) :
    Ev G hq k env (.Call (.Attribute o (Str.ofString name) apos) [] [] pos) (m0.bnd fun o => (kindV o).bnd fun kd => if kd then meth0V name true o else .stk) := by
  intro A ι q s ha R
  refine (Sat.bnd (T' := fun ov Q E s₁ => wpAny G.M A (getMethod ov (Str.ofString name) (do return (← importBound o env).getD true)) (fun fp s₂ => wpAny G.M A (callWith pos fp.1 fp.2 (backTo pos (starEach [] env)) []) Q E s₂) E s₁)
      (h0 A ι q s ha R) fun v q' ι' b s' _ P hv => ?_).imp fun Q E y => call_method hbase rfl hline y
  rcases kindV_ok (o := v) (q := q') with hst | ⟨i, xs, rfl, e', hk'⟩ | ⟨i, es, rfl, e', hk'⟩
  · rw [bnd_stuck hst]; trivial
  · rw [bnd_ok hk']
    refine (P_meth0 C P.rel hv).imp fun Q E y => get_bm B1 P.rel hv hk' (Calls.callWith_builtin rfl (evalArgs_any rfl (wpAny_items_nil (pos := pos) (env := env) y)))
  · rw [bnd_ok hk']; trivial
end
end Mine

set_option Elab.async false
set_option linter.unusedVariables false
namespace Mine
open PySem PySem.W PyProof.Rows

section
variable {G : Cx} {hq : Bool} {k : Nat} {env : Env} {A : Around} {ι ι' : List Addr} {q : S} {s s' : Shared} {H H' : Hp} {h : Heap}

/-! ### built-ins by name -/
def CallsBy (bv : Value) : Prop := ∀ (M : Model) (A : Around) (pos : Pos) (args : List (Bool × Sem Value)) (Q : Value → Shared → Prop) (E : Value → Shared → Prop) (s : Shared), args.any (·.1) = false →
  wpAny M A (evalArgs bv true args []) (fun a s₁ => wpAny M A (call bv ([] ++ a.pos) a.kw) Q E s₁) E s → wpAny M A (callWith pos bv [] args []) Q E s
theorem callsBy_builtin (id : String) : CallsBy (.builtin id) := fun _ _ _ _ _ _ _ hp h => Calls.callWith_builtin hp h
theorem callsBy_type (T : String) : CallsBy (.type T) := fun _ _ _ _ _ _ _ hp h => callWith_excType hp h

theorem E_blt (C : CxOk G) {x : String} {bv : Value} {es : List Expr} {p pos : Pos} {m : Cm (List V)} {f : List V → Cm V} (hx : env.kindOf (Str.ofString x) = some .globalImplicit) (hv : nsIn G.K mainGlobals (Str.ofString x) = some none)
    (hb : bootBuiltins (Str.ofString x) = some bv) (hn : Str.ofString x ≠ "__name__") (hd : (Str.ofString x == ("__debug__" : Str)) = false) (hc : CallsBy bv) (h1 : EvL G hq k env es m) (hp : (backTo pos (starEach es env)).any (·.1) = false)
    (hf : ∀ A ι q s vs cvs, AOk hq k A env → Rel G A env ι q s → VRels G ι s.heap vs cvs → Sat G A env ι s (f vs q) (VRel G) (wpT G A (call bv cvs))) :
    Ev G hq k env (.Call (.Name (Str.ofString x) p) es [] pos) (m.bnd fun vs => f vs) := by
  intro A ι q s ha R
  refine (Sat.bnd (T' := fun vs Q E s₁ => wpAny G.M A (call bv vs) Q E s₁) (h1 pos A ι q s ha R) fun a q' ι' b s' _ P hv => hf A ι' q' s' a b ha P.rel hv).imp fun Q E y => ?_
  show wpAny G.M A (do callWith pos (← eval (.Name (Str.ofString x) p) env) [] (backTo pos (starEach es env)) []) Q E s
  refine wpAny_bind (blt_load C R hx hv hb hn hd ?_)
  exact hc _ _ _ _ _ _ _ hp (evalArgs_any hp (wpAny_mono y (fun vs s₁ z => z) fun _ _ z => z))

def lenV (sn : List Int) : List V → Cm V
  | [.ref i] => fun q => (match q.H[i]? with
    | some (.list xs) => if xs.length < 1000000 then .ok (.int xs.length) q else .stuck
    | _ => .stuck)
  | [.tup xs] => if xs.length < 1000000 then .pur (.int xs.length) else .stk
  | [.scr] => .pur (.int sn.length)
  | _ => .stk
theorem P_len (C : CxOk G) (R : Rel G A env ι q s) {vs : List V} {cvs : List Value} (hv : VRels G ι s.heap vs cvs) : Sat G A env ι s (lenV G.sn vs q) (VRel G) (wpT G A (call (.builtin "len") cvs)) := by
  unfold lenV
  split
  · obtain ⟨cv, _, rfl, h1, h2⟩ := hv; rw [show _ = [] from h2]
    obtain ⟨a, hi, rfl⟩ := h1
    split
    · rename_i xs e
      split
      · rename_i hl
        obtain ⟨a1, n1, vs, g1, g2, g3⟩ := R.st.list e
        obtain rfl : a = a1 := Option.some.inj (hi.symm.trans g1)
        have : ((vs.toArray.size : Nat) : Int) = (xs.length : Int) := by rw [List.size_toArray, g3.length]
        exact Sat.ret R (vInt _ _) fun Q E hQ => Calls.call_len_list g2.isList (by rw [this]; omega) (by rw [this]; exact hQ)
      · trivial
    · trivial
  · rename_i xs
    obtain ⟨cv, _, rfl, h1, h2⟩ := hv; rw [show _ = [] from h2]
    obtain ⟨a, ws, rfl, ht, hw⟩ := h1
    split
    · rename_i hl
      have : ((ws.toArray.size : Nat) : Int) = (xs.length : Int) := by rw [List.size_toArray, hw.length]
      exact Sat.ret R (vInt _ _) fun Q E hQ => len_tuple ht (by rw [this]; omega) (by rw [this]; exact hQ)
    · trivial
  · obtain ⟨cv, _, rfl, h1, h2⟩ := hv; rw [show _ = [] from h2]
    rw [show cv = .ref G.sa from h1]
    have hl : s.heap.IsList G.sa G.sv.toArray := C.scr.at fun o e => R.st.keep _ _ e
    have : ((G.sv.toArray.size : Nat) : Int) = (G.sn.length : Int) := by rw [List.size_toArray, IntsAre.length C.isInts]
    have hs := C.short
    exact Sat.ret R (vInt _ _) fun Q E hQ => Calls.call_len_list hl (by rw [this]; omega) (by rw [this]; exact hQ)
  · trivial

def listOfV (sn : List Int) : List V → Cm V
  | [o] => fun q => (match itemsOf sn o q.H with
    | some xs => if xs.length ≤ 1000000 then .ok (.ref q.H.length) { q with H := q.H ++ [.list xs] } else .stuck
    | none => .stuck)
  | _ => .stk
theorem P_listOf (C : CxOk G) (R : Rel G A env ι q s) {vs : List V} {cvs : List Value} (hv : VRels G ι s.heap vs cvs) : Sat G A env ι s (listOfV G.sn vs q) (VRel G) (wpT G A (call (.type "list") cvs)) := by
  unfold listOfV
  split
  · obtain ⟨cv, _, rfl, h1, h2⟩ := hv; rw [show _ = [] from h2]
    split
    · rename_i xs e
      split
      · rename_i hl
        obtain ⟨l, vs, rfl, g1, g2⟩ := items_at C R.st h1 e
        obtain ⟨o, ho, hc, n, hd⟩ := g1
        intro Q E hQ
        refine call_list_seq l (.inl rfl) ho hc hd (fun h' c' hk hD => ?_) (by rw [List.size_toArray, g2.length, sizeLine_eq]; omega)
        exact hQ _ _ _ (Post.alloc (tk := s.toks) R hk (Heap.get?_none_of_le (Nat.le_refl _)) ⟨vs, ⟨c', hD⟩, g2.mono (List.prefix_append _ _) (.of_stays hk)⟩) (vRef_new R.st _)
      · trivial
    · trivial
  · trivial
/-! ### isinstance -/
def tyOf (sn : List Int) (H : Hp) : V → Option String
  | .none => some "NoneType"
  | .bool _ => some "bool"
  | .int _ => some "int"
  | .str _ => some "str"
  | .tup _ => some "tuple"
  | .scr => some "list"
  | .ref i => (match H[i]? with | some (.list _) => some "list" | some (.dict _) => some "dict" | _ => none)
  | _ => none
def isiV (sn : List Int) (T : String) (v : V) : Cm V := fun q => match tyOf sn q.H v with
  | some t => .ok (.bool (t == T || (t == "bool" && T == "int"))) q
  | none => .stuck
theorem kit_of (C : CxOk G) (R : StOk G ι H h) {v : V} {cv : Value} {t : String} (r : VRel G ι h v cv) (e : tyOf G.sn H v = some t) : ∃ P : Heap → Prop, KitX G.K cv (.type t) P ∧ P h ∧ cv ≠ .builtin "__main__.__loader__#opaque" ∧ (t = "NoneType" ∨ t = "bool" ∨ t = "int" ∨ t = "str" ∨ t = "tuple" ∨ t = "list" ∨ t = "dict") := by
  unfold tyOf at e
  split at e
  · cases e; rw [show cv = .none from r]; exact ⟨_, kitx_none, trivial, (by intro q; cases q), by simp⟩
  · cases e; rw [show cv = .bool _ from r]; exact ⟨_, kitx_bool, trivial, (by intro q; cases q), by simp⟩
  · cases e; obtain ⟨t, rfl⟩ := r; exact ⟨_, kitx_int, trivial, (by intro q; cases q), by simp⟩
  · cases e; obtain ⟨t, rfl⟩ := r; exact ⟨_, kitx_str, trivial, (by intro q; cases q), by simp⟩
  · cases e; obtain ⟨a, vs, rfl, ⟨o, ho, hc, _⟩, _⟩ := r; exact ⟨_, kitx_tuple, ⟨o, ho, hc⟩, (by intro q; cases q), by simp⟩
  · cases e
    obtain ⟨o, ho, hc, _⟩ := C.scr
    rw [show cv = .ref G.sa from r]
    exact ⟨_, kitx_list, ⟨o, R.keep _ _ ho, hc⟩, (by intro q; cases q), by simp⟩
  · split at e
    · rename_i hx; cases e
      obtain ⟨a, hi, rfl⟩ := r
      obtain ⟨a1, n1, vs, g1, g2, g3⟩ := R.list hx
      obtain rfl : a = a1 := Option.some.inj (hi.symm.trans g1)
      exact ⟨_, kitx_list, ⟨_, g2, rfl⟩, (by intro q; cases q), by simp⟩
    · rename_i hx; cases e
      obtain ⟨a, hi, rfl⟩ := r
      obtain ⟨a1, kvs, g1, ⟨o, es, ep, ho, hc, _⟩, g3⟩ := R.dict hx
      obtain rfl : a = a1 := Option.some.inj (hi.symm.trans g1)
      exact ⟨_, kitx_dict, ⟨_, ho, hc.1⟩, (by intro q; cases q), by simp⟩
    · cases e
  · cases e

def isiTab (K : Frag) (T : String) : Bool := (["NoneType", "bool", "int", "str", "tuple", "list", "dict"]).all fun t => kitOne K (.type t) (.type T) == some (t == T || (t == "bool" && T == "int"))

theorem P_isi (C : CxOk G) {T : String} (hT : isiTab G.K T = true) {v : V} {cv : Value} (R : Rel G A env ι q s) (hv : VRel G ι s.heap v cv) : Sat G A env ι s (isiV G.sn T v q) (VRel G) (wpT G A (call (.builtin "isinstance") [cv, .type T])) := by
  unfold isiV
  split
  · rename_i t e
    obtain ⟨P, Z, p, hne, ht⟩ := kit_of C R.st hv e
    have hk : kitOne G.K (.type t) (.type T) = some (t == T || (t == "bool" && T == "int")) := by
      unfold isiTab at hT
      rw [List.all_eq_true] at hT
      exact beq_iff_eq.mp (hT t (by rcases ht with rfl | rfl | rfl | rfl | rfl | rfl | rfl <;> decide))
    exact fun Q E hQ => kia_one Z (C.X.keeps R.st.keep) p hk hne fun tk => hQ ι _ _ (Post.toks R tk) (vBool _)
  · trivial

/-- isinstance(e, T) for a built-in class T -/
theorem E_isi (C : CxOk G) {T : String} (hT : isiTab G.K T = true) {e : Expr} {p p2 pos : Pos} {m : Cm V} (hx : env.kindOf (Str.ofString "isinstance") = some .globalImplicit) (hv : nsIn G.K mainGlobals (Str.ofString "isinstance") = some none)
    (hx2 : env.kindOf (Str.ofString T) = some .globalImplicit) (hv2 : nsIn G.K mainGlobals (Str.ofString T) = some none) (hb2 : bootBuiltins (Str.ofString T) = some (.type T)) (hn2 : Str.ofString T ≠ "__name__")
    (hd2 : (Str.ofString T == ("__debug__" : Str)) = false) (h1 : Ev G hq k env e m) (he : starEach [e, .Name (Str.ofString T) p2] env = (false, eval e env) :: starEach [.Name (Str.ofString T) p2] env)
    (hp : (backTo pos (starEach [e, .Name (Str.ofString T) p2] env)).any (·.1) = false) :
    Ev G hq k env (.Call (.Name (Str.ofString "isinstance") p) [e, .Name (Str.ofString T) p2] [] pos) (m.bnd fun v => isiV G.sn T v) := by
  intro A ι q s ha R
  refine (Sat.bnd (T' := fun v Q E s₁ => wpAny G.M A (eval (.Name (Str.ofString T) p2) env) (fun w s₂ => wpAny G.M A (call (.builtin "isinstance") [v, w]) Q E s₂) E s₁) (h1 A ι q s ha R) fun a q' ι' b s' _ P hv' =>
    (P_isi C hT P.rel hv').imp fun Q E z => blt_load C P.rel hx2 hv2 hb2 hn2 hd2 z).imp fun Q E y => ?_
  show wpAny G.M A (do callWith pos (← eval (.Name (Str.ofString "isinstance") p) env) [] (backTo pos (starEach [e, .Name (Str.ofString T) p2] env)) []) Q E s
  refine wpAny_bind (blt_load C R hx hv (v := .builtin "isinstance") (by decide +kernel) (by decide) (by decide) ?_)
  refine Calls.callWith_builtin hp (evalArgs_any hp (wpAny_items_cons (wpAny_mono y (fun v s₁ z => wpAny_items_cons (wpAny_mono z (fun w s₂ u => wpAny_items_nil u) fun _ _ u => u)) fun _ _ z => z) he))
end
end Mine

set_option Elab.async false
set_option linter.unusedVariables false
namespace Mine
open PySem PySem.W PyProof.Rows

section
variable {G : Cx} {hq : Bool} {k : Nat} {env : Env} {A : Around} {ι ι' : List Addr} {q q' : S} {s s' : Shared} {H H' : Hp} {h : Heap}

/-! ### exceptions within a frame -/
theorem noteFrame_eq {x : Value} {env env' : Env} (e : env.frame = env'.frame) : noteFrame x env = noteFrame x env' := by
  unfold noteFrame PySem.frameOf; rw [e]

theorem FsOk.slots {fs : List Env} {h h' : Heap} (x : FsOk G fs ι h) (k : h.UpToSlots h') : FsOk G fs ι h' := fun env he => by
  obtain ⟨a, L, o, b, c, ⟨es, n, d⟩, f⟩ := x env he
  obtain ⟨sl, hs⟩ := k L o c fun vs q => by rw [d] at q; cases q
  exact ⟨a, L, _, b, hs, ⟨es, n, d⟩, f⟩
theorem FrOk.slots {l : Loc} {hv hl hl' : Heap} (x : FrOk G env l ι hv hl) (k : hl.UpToSlots hl') : FrOk G env l ι hv hl' :=
  ⟨x.kind, x.glob, x.blt, let ⟨m, hn, hm⟩ := x.loc; ⟨m, k.ns hn, hm⟩, x.cel, x.cells, x.ndup, x.dis, x.fresh⟩

theorem XPost.at {c : String} {ev : Value} {e C L : Addr} {B : Heap} {h'' : Heap} (x : XPost G A env ι s c ι' q' s' ev) (h1 : ev = .ref e) (h2 : G.xcl c = some C) (h3 : env.frame = some L)
    (fl : Flight B (A.frames.getD []) L e (.ref C) h'') (h5 : StOk G ι' q'.H B) (h6 : FrOk G env q'.l ι' B s'.heap) (h7 : FsOk G (A.frames.getD []) ι' s'.heap)
    (h8 : ∀ a o, s.heap.get? a = some o → a ∉ own env ++ ι → a ∉ frs A → B.get? a = some o) (up : s'.heap.UpToSlots h'') : XPost G A env ι s c ι' q' { s' with heap := h'' } ev := by
  have fs := h7.slots up
  have fr := h6.slots up
  refine ⟨x.pre, ⟨e, C, B, L, h1, h2, h3, fl, h5, fr, fs, h8⟩, ?_, ?_, x.new, x.gens, x.os⟩
  · intro a o ea
    by_cases h1 : a ∈ own env
    · obtain ⟨o', e', _⟩ := fr.mut fl.1 h1; exact ⟨o', e'⟩
    · by_cases h2 : a ∈ ι
      · obtain ⟨i, hi⟩ := List.mem_iff_getElem?.mp h2
        have hi' := getElem?_prefix x.pre hi
        obtain ⟨oa, hoa⟩ : ∃ oa, q'.H[i]? = some oa := ⟨_, List.getElem?_eq_getElem (h5.len ▸ (List.getElem?_eq_some_iff.mp hi').1)⟩
        obtain ⟨o', e'⟩ := (h5.obj i a oa hi' hoa).there
        exact ⟨o', fl.1 _ _ e'⟩
      · by_cases h3 : a ∈ frs A
        · obtain ⟨o', e', _⟩ := frames_mut fs h3; exact ⟨o', e'⟩
        · exact ⟨o, fl.1 _ _ (h8 a o ea (fun hm => (List.mem_append.mp hm).elim h1 h2) h3)⟩
  · intro a o ea hW
    by_cases h3 : a ∈ frs A
    · obtain ⟨sl, e1⟩ := x.up a o ea hW
      obtain ⟨o', e', es, n, d⟩ := frames_mut h7 h3
      rw [e1] at e'; cases e'
      obtain ⟨sl2, e2⟩ := up a _ e1 fun vs q => by rw [d] at q; cases q
      exact ⟨sl2, e2⟩
    · exact ⟨o.slots, fl.1 _ _ (h8 a o ea hW h3)⟩

/-- noted in its frame -/
def Held (env : Env) (e : Addr) (h : Heap) : Prop := ∃ L oe vs T oT ts, env.frame = some L ∧ h.get? e = some oe ∧ oe.data = .fields vs ∧ vs[1]? = some (.ref T) ∧ h.get? T = some oT ∧ oT.data = .fields ts ∧ ts[3]? = some (rawInt L)

theorem XPost.noted {c : String} {ev : Value} {Q : Unit → Shared → Prop} {E : Value → Shared → Prop} (ha : AOk hq k A env) (x : XPost G A env ι s c ι' q' s' ev)
    (hQ : ∀ e s'', ev = .ref e → Held env e s''.heap → XPost G A env ι s c ι' q' s'' ev → Q () s'') : wpAny G.M A (noteFrame ev env) Q E s' := by
  obtain ⟨e, C, B, L, rfl, h2, h3, fl, h5, h6, h7, h8⟩ := x.ex
  obtain ⟨fenv, rest, f1, f2, _⟩ := ha.fr
  have hfs : A.frames.getD [] = fenv :: rest := by rw [f1]; rfl
  obtain ⟨b1, b2, b3, oe, vs, a0, c1, c2, c3, c4, c5⟩ := id fl
  rw [hfs] at b3
  rw [noteFrame_eq f2.symm]
  rcases c5 with c5 | ⟨T, oT, ts, fl', d1, d2, d3, d4, d5, d6, d7⟩
  · unfold noteFrame
    simp only [f2.trans h3]
    refine wpAny_bind (wpAny_field c1 c3 c5 ?_)
    rw [if_neg (by decide)]
    refine wpAny_entryW f1 b3 (f2.trans h3) c1 b1 b2 c3 (Array.getElem?_eq_some_iff.mp c5).1 c4 fun h' hN => ?_
    obtain ⟨k1, k2, ⟨oe', vs', T, oT, ts, e1, e2, e3, e4, e5, e6, e7, e8, e9⟩, k4⟩ := hN
    refine hQ e _ rfl ⟨L, oe', vs', T, oT, ts, h3, e1, e3, e4, e7, e8, e9⟩ (x.at rfl h2 h3 ?_ h5 h6 h7 h8 k4)
    exact ⟨k1, b2, by rw [hfs]; exact k2, oe', vs', a0, e1, e2.1.trans c2, e3, e2.2, .inr ⟨T, oT, ts, rawInt L, e4, e5, e6, e7, e8, e9, .inr rfl⟩⟩
  · rcases d7 with rfl | rfl
    · refine wpAny_noteFrame_onW f1 b3 (f2.trans h3) ⟨oe, vs, T, oT, ts, c1, ⟨c2, c4⟩, c3, d1, d2, d3, d4, d5, d6⟩ b1 b2 fun h' hN => ?_
      obtain ⟨k1, k2, ⟨oe', vs', T, oT, ts, e1, e2, e3, e4, e5, e6, e7, e8, e9⟩, k4⟩ := hN
      refine hQ e _ rfl ⟨L, oe', vs', T, oT, ts, h3, e1, e3, e4, e7, e8, e9⟩ (x.at rfl h2 h3 ?_ h5 h6 h7 h8 k4)
      exact ⟨k1, b2, by rw [hfs]; exact k2, oe', vs', a0, e1, e2.1, e3, e2.2, .inr ⟨T, oT, ts, rawInt L, e4, e5, e6, e7, e8, e9, .inr rfl⟩⟩
    · exact wpAny_noteFrame_againW (f2.trans h3) ⟨oe, vs, T, oT, ts, c1, ⟨c2, c4⟩, c3, d1, d2, d3, d4, d5, d6⟩ (hQ e _ rfl ⟨L, oe, vs, T, oT, ts, h3, c1, c3, d1, d4, d5, d6⟩ x)

theorem cameBack {e : Addr} {E : Value → Shared → Prop} (hh : Held env e s.heap) (hE : E (.ref e) s) : cameBackBy G.M A env E (.ref e) s := by
  obtain ⟨L, oe, vs, T, oT, ts, h0, h1, h2, h3, h4, h5, h6⟩ := hh
  show wpAny _ _ _ _ _ _
  refine wpAny_bind (wpAny_field h1 h2 h3 ?_)
  rw [if_neg (show ¬ ((Value.ref T == Value.none) = true) from by simp)]
  have step : wpAny G.M A (setFlight (.ref e) env.frame) (fun _ s'' => E (.ref e) s'') E s := by
    unfold setFlight
    refine wpAny_bind (wpAny_field h1 h2 h3 ?_)
    rw [if_pos (show (Value.ref T != Value.none) = true from by simp), h0]
    refine wpAny_setField h4 h5 (Array.getElem?_eq_some_iff.mp h6).1 ?_
    show E (.ref e) { s with heap := s.heap.update T (Obj.mapFields (·.setIfInBounds 3 (rawInt L))) }
    rw [Heap.update_setField_same s.heap T oT ts 3 (rawInt L) h4 h5 h6]
    exact hE
  first
    | exact wpAny_bind (wpAny_pure step)
    | exact step

theorem XPost.passes {c : String} {ev : Value} {E : Value → Shared → Prop} (ha : AOk hq k A env) (x : XPost G A env ι s c ι' q' s' ev) (hE : ∀ s'', XPost G A env ι s c ι' q' s'' ev → E ev s'') :
    notedBy G.M A env (cameBackBy G.M A env E) ev s' :=
  XPost.noted ha x fun e s'' he hh y => by subst he; exact cameBack hh (hE s'' y)
end
end Mine

set_option Elab.async false
set_option linter.unusedVariables false
namespace Mine
open PySem PySem.W PyProof.Rows

/-! ### loops -/
structure It where
  xs : List V
  g : Hp → Prop

structure Itr (G : Cx) (A : Around) (target : Expr) (I : Addr) (priv : List Addr) (ι0 : List Addr) (it : It) (St : Nat → Heap → Prop) : Prop where
  mu : ∀ i h, St i h → ∀ b ∈ priv, ∃ o, h.get? b = some o ∧ Mut o
  frame : ∀ i h h', St i h → (∀ b ∈ priv, ∀ o, h.get? b = some o → h'.get? b = some o) → St i h'
  item : ∀ i x (s : Shared) ι H (Q : Value → Shared → Prop) E, it.xs[i]? = some x → ι0 <+: ι → (∀ b ∈ priv, b ∉ ι) → StOk G ι H s.heap → it.g H → St i s.heap →
    (∀ v h' tk, (∀ b o, b ∉ priv → s.heap.get? b = some o → h'.get? b = some o) → VRel G ι h' x v → St (i + 1) h' → Q v { s with heap := h', toks := tk }) →
    wpAny G.M A (pyNext (.ref I)) (fun r s₁ => match r with | none => False | some v => wpAny G.M A (letOwnedTupleGo target (.ref I) v) (fun _ s₂ => Q v s₂) E s₁) E s
  done : ∀ (s : Shared) ι H (Q : Shared → Prop) E, ι0 <+: ι → (∀ b ∈ priv, b ∉ ι) → StOk G ι H s.heap → it.g H → St it.xs.length s.heap →
    (∀ h' tk, (∀ b o, b ∉ priv → s.heap.get? b = some o → h'.get? b = some o) → Q { s with heap := h', toks := tk }) →
    wpAny G.M A (pyNext (.ref I)) (fun r s₁ => match r with | none => Q s₁ | some v => False) E s
  self : ∀ i (s : Shared) (Q : Value → Shared → Prop) (E : Value → Shared → Prop), St i s.heap → Q (.ref I) s → wpAny G.M A (pyIter (.ref I)) Q E s

def ItRel (G : Cx) (A : Around) (target : Expr) (h0 : Heap) (ι : List Addr) (h : Heap) (it : It) (cv : Value) : Prop :=
  ∃ I priv St, cv = .ref I ∧ St 0 h ∧ (∀ b ∈ priv, h0.get? b = none ∧ b ∉ ι) ∧ (∀ H, StOk G ι H h → True) ∧ Itr G A target I priv ι it St

/-- the iterable's evaluation, and its iterator -/
def EvI (G : Cx) (hq : Bool) (k : Nat) (env : Env) (target iter : Expr) (m : Cm It) : Prop :=
  ∀ A ι q s, AOk hq k A env → Rel G A env ι q s → Sat G A env ι s (m q) (fun ι' h it cv => ItRel G A target s.heap ι' h it cv ∧ ∀ q', m q = .ok it q' → it.g q'.H)
    (fun Q E s => wpAny G.M A (eval iter env) (fun x s₁ => wpAny G.M A (pyIter x) Q E s₁) E s)

open Classical in
noncomputable def turnV (g : Hp → Prop) (rest : Cm Fl) : Fl → Cm Fl
  | .next => fun q => if g q.H then rest q else .stuck
  | .ret v => .pur (.ret v)
noncomputable def forV (g : Hp → Prop) (bd : V → Cm Unit) (body : Cm Fl) : List V → Cm Fl
  | [] => .pur .next
  | v :: r => (bd v).bnd fun _ => body.bnd (turnV g (forV g bd body r))

def AsgOk (G : Cx) (hq : Bool) (k : Nat) (env : Env) (target : Expr) (bd : V → Cm Unit) : Prop :=
  ∀ A ι q s v cv, AOk hq k A env → Rel G A env ι q s → VRel G ι s.heap v cv → Sat G A env ι s (bd v q) (fun _ _ _ _ => True) (wpT G A (assign target env cv))

section
variable {G : Cx} {hq : Bool} {k : Nat} {env : Env} {A : Around} {ι ι' : List Addr} {q q' : S} {s s' : Shared} {H H' : Hp} {h : Heap}

theorem Sat.of {α β : Type} {r : Res S α} {REL : List Addr → Heap → α → β → Prop} {T : PT β}
    (h : ∀ Q E, Fin G A env ι s r REL Q E → T Q E s) : Sat G A env ι s r REL T := by
  cases r with
  | ok a q' => exact fun Q E x => h Q E x
  | exc c q' => exact fun Q E x => h Q E x
  | stuck => trivial

/-- things of no abstract object change -/
theorem Rel.off {priv : List Addr} {h' : Heap} {tk : Nat} (R : Rel G A env ι q s) (hi : ∀ b ∈ priv, b ∉ ι ∧ b ∉ own env ∧ b ∉ frs A ∧ G.hB.get? b = none) (hm : ∀ b ∈ priv, ∃ o, s.heap.get? b = some o ∧ Mut o)
    (hk : ∀ b o, b ∉ priv → s.heap.get? b = some o → h'.get? b = some o) : Rel G A env ι q { s with heap := h', toks := tk } ∧ Imm s.heap h' := by
  have im : Imm s.heap h' := fun a o e hmu => ⟨o.slots, hk a o (fun hp => by obtain ⟨o', e', m'⟩ := hm a hp; rw [e] at e'; cases e'; exact hmu m') e⟩
  have pr : ι <+: ι := List.prefix_refl _
  refine ⟨⟨⟨fun b o e => hk b o (fun hp => by rw [(hi b hp).2.2.2] at e; cases e) (R.st.keep b o e), R.st.len, R.st.nodup, R.st.fresh, fun i a o e1 e2 => ?_⟩,
    ⟨R.fr.kind, R.fr.glob, R.fr.blt, ?_, ?_, ?_, R.fr.ndup, R.fr.dis, R.fr.fresh⟩, ?_, R.gens, R.os⟩, im⟩
  · exact (R.st.obj i a o e1 e2).at pr im fun o' e => hk a o' (fun hp => (hi a hp).1 (List.mem_of_getElem? e1)) e
  · obtain ⟨m, hn, hmm⟩ := R.fr.loc
    exact ⟨m, hn.at' fun o e => hk _ o (fun hp => (hi _ hp).2.1 (.head _)) e, fun y v e e2 => let ⟨cv, a, b⟩ := hmm y v e e2; ⟨cv, a, b.mono pr im⟩⟩
  · intro y v e e2
    obtain ⟨c, o, cv, h1, h2, h3, h4⟩ := R.fr.cel y v e e2
    exact ⟨c, o, cv, h1, hk c o (fun hp => (hi c hp).2.1 (List.mem_cons_of_mem _ (List.mem_map.mpr ⟨_, mem_of_lookup h1, rfl⟩))) h2, h3, h4.mono pr im⟩
  · intro p hp
    obtain ⟨o, ov, h1, h2⟩ := R.fr.cells p hp
    exact ⟨o, ov, hk p.2 o (fun hp' => (hi _ hp').2.1 (List.mem_cons_of_mem _ (List.mem_map.mpr ⟨p, hp, rfl⟩))) h1, h2⟩
  · intro env' he
    obtain ⟨b1, L, o', b2, b3, b4, b5, b6⟩ := R.fs env' he
    exact ⟨b1, L, o', b2, hk L o' (fun hp => (hi L hp).2.2.1 (List.mem_filterMap.mpr ⟨env', he, b2⟩)) b3, b4, b5, b6⟩

theorem Rel.fresh3 (R : Rel G A env ι q s) {a : Addr} (ha : s.heap.get? a = none) : a ∉ own env ∧ a ∉ frs A ∧ G.hB.get? a = none := by
  obtain ⟨_, n2, n3⟩ := R.fresh_ne ha
  refine ⟨n2, fun hf => ?_, n3⟩
  obtain ⟨o, e, _⟩ := frames_mut R.fs hf
  rw [ha] at e; cases e

/-- from the loop's beginning on: the iterator's own things do not count -/
theorem Post.off {priv : List Addr} {h' : Heap} {tk : Nat} (R : Rel G A env ι q s) (P : Post G A env ι s ι' q' s') (hp : ∀ b ∈ priv, s.heap.get? b = none ∧ b ∉ ι') (hm : ∀ b ∈ priv, ∃ o, s'.heap.get? b = some o ∧ Mut o)
    (hk : ∀ b o, b ∉ priv → s'.heap.get? b = some o → h'.get? b = some o) : Post G A env ι s ι' q' { s' with heap := h', toks := tk } ∧ Imm s'.heap h' := by
  have off : ∀ b o, s.heap.get? b = some o → b ∉ priv := fun b o e hb => by rw [(hp b hb).1] at e; cases e
  obtain ⟨R', im⟩ := P.rel.off (tk := tk) (fun b hb => let ⟨x, y, z⟩ := R.fresh3 (hp b hb).1; ⟨(hp b hb).2, x, y, z⟩) hm hk
  refine ⟨⟨P.pre, R', ⟨fun a o e => ?_, fun a o e hW => ?_, fun a o e hW hf => ?_⟩, P.new⟩, im⟩
  · obtain ⟨o', e'⟩ := P.kp.size a o e; exact ⟨o', hk a o' (off a o e) e'⟩
  · obtain ⟨sl, e'⟩ := P.kp.up a o e hW; exact ⟨sl, hk a _ (off a o e) e'⟩
  · exact hk a o (off a o e) (P.kp.ex a o e hW hf)

theorem P_for {target : Expr} {body : List Stmt} {bd : V → Cm Unit} {m : Cm Fl} {I : Addr} {priv : List Addr} {ι1 : List Addr} {it : It} {St : Nat → Heap → Prop} {q1 : S} {s1 : Shared} (ha : AOk hq k A env) (R : Rel G A env ι q s)
    (hb : AsgOk G hq k env target bd) (hm : Exs G hq k env body m) (P1 : Post G A env ι s ι1 q1 s1) (hI : Itr G A target I priv ι1 it St) (h0 : St 0 s1.heap) (hp : ∀ b ∈ priv, s.heap.get? b = none ∧ b ∉ ι1) (hg : it.g q1.H)
    {Q : Flow → Shared → Prop} {E : Value → Shared → Prop}
    (hQ : Fin G A env ι s (forV it.g bd m it.xs q1) (FlRel G) Q E) :
    codeAny G.M A (.forLoop target (.ref I) body [] env) (fun r s' => match r with | .ok f => Q f s' | .error e => cameBackBy G.M A env E e s') s1 := by
  refine codeAny_forLoop_any (fun n s' => ∃ i ι' q', i ≤ it.xs.length ∧ n = it.xs.length + 1 - i ∧ ι1 <+: ι' ∧ Post G A env ι s ι' q' s' ∧ St i s'.heap ∧ it.g q'.H ∧ (∀ b ∈ priv, b ∉ ι') ∧
      forV it.g bd m (it.xs.drop i) q' = forV it.g bd m it.xs q1) ?_ (it.xs.length + 1)
    ⟨0, ι1, q1, Nat.zero_le _, rfl, List.prefix_refl _, P1, h0, hg, fun b hb => (hp b hb).2, by rw [List.drop_zero]⟩
  rintro n s' ⟨i, ι', q', hi, rfl, hpre, P, hst, hg', hpi, hr⟩
  have hp' : ∀ b ∈ priv, s.heap.get? b = none ∧ b ∉ ι' := fun b hb => ⟨(hp b hb).1, hpi b hb⟩
  rcases Nat.lt_or_ge i it.xs.length with hlt | hge
  · obtain ⟨x, hx⟩ : ∃ x, it.xs[i]? = some x := ⟨_, List.getElem?_eq_getElem hlt⟩
    have hdrop : it.xs.drop i = x :: it.xs.drop (i + 1) := by
      rw [List.drop_eq_getElem_cons hlt]; congr 1; rw [List.getElem?_eq_getElem hlt] at hx; exact Option.some.inj hx
    rw [hdrop] at hr
    refine wpAny_mono (hI.item i x s' ι' q'.H (fun v s₂ => wpAny G.M A (assign target env v) (fun _ s₂ => wpAny G.M A (execs body env) (fun f s₃ => match f with
            | .next | .cont => ∃ m', m' < it.xs.length + 1 - i ∧ ∃ i ι' q', i ≤ it.xs.length ∧ m' = it.xs.length + 1 - i ∧ ι1 <+: ι' ∧ Post G A env ι s ι' q' s₃ ∧ St i s₃.heap ∧ it.g q'.H ∧ (∀ b ∈ priv, b ∉ ι') ∧
                forV it.g bd m (it.xs.drop i) q' = forV it.g bd m it.xs q1
            | .brk => Q .next s₃
            | .ret v => Q (.ret v) s₃) (notedBy G.M A env (cameBackBy G.M A env E)) s₂) (notedBy G.M A env (cameBackBy G.M A env E)) s₂) (notedBy G.M A env (cameBackBy G.M A env E)) hx hpre hpi P.rel.st hg' hst
      fun v h' tk hk hv hst' => ?_) (fun r s₁ y => ?_) fun _ _ y => y
    · obtain ⟨P2, im⟩ := Post.off (tk := tk) R P hp' (hI.mu _ _ hst) hk
      have hA := hb A ι' q' _ x v ha P2.rel hv
      have hno : ∀ b ∈ priv, b ∉ own env ∧ b ∉ frs A := fun b hb => let ⟨x, y, _⟩ := R.fresh3 (hp b hb).1; ⟨x, y⟩
      have stp : ∀ {ιa ιb : List Addr} {qa qb : S} {sa sb : Shared}, St (i + 1) sa.heap → (∀ b ∈ priv, b ∉ ιa) → Post G A env ιa sa ιb qb sb → St (i + 1) sb.heap ∧ ∀ b ∈ priv, b ∉ ιb := fun {ιa ιb qa qb sa sb} hs hn Pa => by
        refine ⟨hI.frame _ _ _ hs fun b hb o e => Pa.kp.ex b o e (fun hm => (List.mem_append.mp hm).elim (hno b hb).1 (hn b hb)) (hno b hb).2, fun b hb hm => ?_⟩
        rcases Pa.new b hm with h1 | h1
        · exact hn b hb h1
        · obtain ⟨o, e, _⟩ := hI.mu _ _ hs b hb; rw [h1] at e; cases e
      cases hbd : bd x q' with
      | stuck =>
        have : forV it.g bd m it.xs q1 = .stuck := by rw [← hr]; exact bnd_stuck hbd
        rw [this] at hQ; exact hQ.elim
      | exc c q2 =>
        have e : forV it.g bd m it.xs q1 = .exc c q2 := by rw [← hr]; exact bnd_exc hbd
        rw [e] at hQ
        rw [hbd] at hA
        exact hA _ _ fun ι2 ev s2 x => (P2.transX x).passes ha fun s'' y => hQ ι2 ev s'' y
      | ok u q2 =>
        rw [hbd] at hA
        refine hA _ _ fun ι2 u' s2 Pa _ => ?_
        obtain ⟨hsa, hna⟩ := stp (qa := q') hst' hpi Pa
        have hr2 : (m.bnd (turnV it.g (forV it.g bd m (it.xs.drop (i + 1))))) q2 = forV it.g bd m it.xs q1 := by
          rw [← hr]; exact (bnd_ok (f := fun _ => m.bnd (turnV it.g (forV it.g bd m (it.xs.drop (i + 1))))) hbd).symm
        have P3 := P2.trans Pa
        have hB := hm A ι2 q2 s2 ha P3.rel
        cases hmb : m q2 with
        | stuck => rw [bnd_stuck hmb] at hr2; rw [← hr2] at hQ; exact hQ.elim
        | exc c q3 =>
          rw [bnd_exc hmb] at hr2; rw [← hr2] at hQ
          rw [hmb] at hB
          exact hB _ _ fun ι3 ev s3 x => (P3.transX x).passes ha fun s'' y => hQ ι3 ev s'' y
        | ok f q3 =>
          rw [bnd_ok hmb] at hr2
          rw [hmb] at hB
          refine hB _ _ fun ι3 cf s3 Pb hf => ?_
          have P4 := P3.trans Pb
          cases f with
          | ret v =>
            obtain ⟨cv, rfl, hv⟩ := hf
            rw [← hr2] at hQ
            exact hQ ι3 (.ret cv) s3 P4 ⟨cv, rfl, hv⟩
          | next =>
            rw [show cf = .next from hf]
            unfold turnV at hr2
            dsimp only at hr2 ⊢
            obtain ⟨hsb, hnb⟩ := stp (qa := q2) hsa hna Pb
            by_cases hg3 : it.g q3.H
            · rw [if_pos hg3] at hr2
              exact ⟨it.xs.length + 1 - (i + 1), by omega, i + 1, ι3, q3, hlt, rfl, hpre.trans (Pa.pre.trans Pb.pre), P4, hsb, hg3, hnb, hr2⟩
            · rw [if_neg hg3] at hr2; rw [← hr2] at hQ; exact hQ.elim
    · cases r with
      | none => exact y.elim
      | some v => exact y
  · have hi' : i = it.xs.length := by omega
    subst hi'
    rw [List.drop_length] at hr
    refine wpAny_mono (hI.done s' ι' q'.H (fun s₁ => Q .next s₁) _ hpre hpi P.rel.st hg' hst fun h' tk hk => ?_) (fun r s₁ y => ?_) fun _ _ y => y
    · obtain ⟨P2, im⟩ := Post.off (tk := tk) R P hp' (hI.mu _ _ hst) hk
      rw [← hr] at hQ
      exact hQ ι' .next _ P2 rfl
    · cases r with
      | none => exact wpAny_execs_nil y
      | some v => exact y.elim
end
end Mine

set_option Elab.async false
set_option linter.unusedVariables false
namespace Mine
open PySem PySem.W PyProof.Rows

section
variable {G : Cx} {hq : Bool} {k : Nat} {env : Env} {A : Around} {ι ι' : List Addr} {q q' : S} {s s' : Shared} {H H' : Hp} {h : Heap}

theorem X_for {target iter : Expr} {body : List Stmt} {pos : Pos} {mi : Cm It} {bd : V → Cm Unit} {m : Cm Fl} (h1 : EvI G hq k env target iter mi) (hb : AsgOk G hq k env target bd) (hm : Exs G hq k env body m)
    (hs : ∀ x, foldedSetIterable iter env x = pure x) : Ex G hq k env (.For target iter body [] pos) (mi.bnd fun it => forV it.g bd m it.xs) := by
  intro A ι q s ha R
  have hi := h1 A ι q s ha R
  refine Sat.of fun Q E hQ => wpAny_For ?_ hs
  cases hmi : mi q with
  | stuck => rw [bnd_stuck hmi] at hQ; exact hQ.elim
  | exc c q1 => rw [bnd_exc hmi] at hQ; rw [hmi] at hi; exact hi _ _ hQ
  | ok it q1 =>
    rw [bnd_ok hmi] at hQ
    rw [hmi] at hi
    refine hi _ _ fun ι1 cv s1 P1 hr => ?_
    obtain ⟨⟨I, priv, St, rfl, h0, hp, _, hI⟩, hg⟩ := hr
    exact P_for ha R hb hm P1 hI h0 hp (hg q1 rfl) hQ

/-! ### targets -/
theorem A_name {x : String} {p : Pos} (hx : Binds env x) : AsgOk G hq k env (.Name (Str.ofString x) p) (setV x) :=
  fun A ι q s v cv ha R hv => (P_store hx R hv).imp fun Q E y => wpAny_assign_Name y

def set2V (x y : String) : V → Cm Unit
  | .tup [a, b] => (setV x a).bnd fun _ => setV y b
  | _ => .stk
theorem A_pair {x y : String} {p p2 pos : Pos} {kk : Nat} (hh : hq = true) (hx : Binds env x) (hy : Binds env y) : AsgOk G hq k env (.Tuple [.Name (Str.ofString x) p, .Name (Str.ofString y) p2] kk pos) (set2V x y) := by
  intro A ι q s v cv ha R hv
  unfold set2V
  split
  · rename_i a b
    obtain ⟨t, vs, rfl, ht, ca, vs1, rfl, ra, cb, vs2, rfl, rb, e⟩ := hv
    rw [show vs2 = [] from e] at ht
    have key : ∀ h', s.heap.StaysIn h' → Sat G A env ι { s with heap := h' } (((setV x a).bnd fun _ => setV y b) q) (fun _ _ _ _ => True) (fun Q E s₁ => wpAny G.M A (storeName env (Str.ofString x) ca) (fun _ s₂ => wpAny G.M A (storeName env (Str.ofString y) cb) Q E s₂) E s₁) := fun h' st => by
      have R' := R.stays (tk := s.toks) st
      have im := Imm.of_stays st
      exact Sat.bnd (m := setV x a) (T' := fun _ Q E s₁ => wpAny G.M A (storeName env (Str.ofString y) cb) Q E s₁) (P_store hx R' (ra.mono (List.prefix_refl _) im)) fun _ q2 ι2 _ s2 _ P2 _ =>
        P_store hy P2.rel (P2.vrel R' (rb.mono (List.prefix_refl _) im))
    show Sat G A env ι s (.ok () ⟨upd (upd q.l x a) y b, q.H⟩) _ _
    intro Q E hQ
    refine assign_Tuple_tuple (ha.hd hh) ht rfl rfl fun h' he => ?_
    have st : s.heap.StaysIn h' := fun b o e => he b o (Nat.ne_of_lt (Heap.lt_size e)) e
    show wpAny G.M A (do holding _ (assign (.Name (Str.ofString x) p) env ca); do holding _ (assign (.Name (Str.ofString y) p2) env cb); pure ()) Q E { s with heap := h' }
    refine wpAny_bind (wpAny_holding (wpAny_assign_Name ?_))
    refine wpAny_mono (key h' st (fun u s₂ => Q () s₂) E fun ι2 u s2 P2 _ => hQ ι2 () s2 ((Post.stays (tk := s.toks) R st).trans P2) trivial) (fun u s₂ y => ?_) fun _ _ y => y
    exact wpAny_bind (wpAny_holding (wpAny_assign_Name (wpAny_mono y (fun u s₂ z => wpAny_pure z) fun _ _ z => z)))
  · trivial

/-! ### iterables -/
inductive Tgt : Expr → Prop
  | name (x : Str) (p : Pos) : Tgt (.Name x p)
  | pair (es : List Expr) (kk : Nat) (p : Pos) : Tgt (.Tuple es kk p)

theorem letGo_list {target : Expr} (ht : Tgt target) {I l : Addr} {i : Nat} {v : Value} {Q : Unit → Shared → Prop} {E : Value → Shared → Prop} (hit : s.heap.IsListIter I l i) (hQ : Q () s) :
    wpAny G.M A (letOwnedTupleGo target (.ref I) v) Q E s := by
  cases ht with
  | name x p => exact wpAny_pure hQ
  | pair es kk p =>
    cases v with
    | ref T => exact wpAny_letOwnedTupleGo_listiter hit hQ
    | _ => exact wpAny_pure hQ

def itOf (sn : List Int) (v : V) : Cm It := fun q => match itemsOf sn v q.H with
  | some xs => .ok ⟨xs, fun H => itemsOf sn v H = some xs⟩ q
  | none => .stuck

theorem listIter_mut {h : Heap} {I l : Addr} {i : Nat} (x : h.IsListIter I l i) : ∃ o, h.get? I = some o ∧ Mut o := let ⟨o, ho, hc, _⟩ := x; ⟨o, ho, .inl ⟨_, hc, by decide⟩⟩
theorem imm_but {h h' : Heap} {I : Addr} (hm : ∃ o, h.get? I = some o ∧ Mut o) (hs : Heap.ExtBut I h h') : Imm h h' := fun a o e hmu => ⟨o.slots, hs a o (fun q => by
  obtain ⟨o', e', m'⟩ := hm; rw [← q, e] at e'; cases e'; exact hmu m') e⟩

theorem itr_list (C : CxOk G) (hh : A.handled = none) {target : Expr} (ht : Tgt target) {I l : Addr} {v : V} {xs : List V} (hv : ∀ ι', ι <+: ι' → ∀ h, VRel G ι' h v (.ref l)) (hs : (∃ j, v = .ref j) ∨ v = .scr) (hI : l ≠ I) :
    Itr G A target I [I] ι ⟨xs, fun H => itemsOf G.sn v H = some xs⟩ (fun i h => h.IsListIter I l i) where
  mu := fun i h st b hb => by simp at hb; subst hb; exact listIter_mut st
  frame := fun i h h' st hk => st.at fun o e => hk I (by simp) o e
  item := fun i x s ι' H Q E hx hpre hpi R hg st hQ => by
    obtain ⟨a, vs, e, g1, g2⟩ := items_at C R (hv ι' hpre s.heap) hg
    cases e
    obtain ⟨cv, c1, c2⟩ := g2.get hx
    refine wpAny_pyNext_list_item st g1 (x := cv) (by simpa using c1) fun h' st' hs => ?_
    exact letGo_list ht st' (hQ cv h' s.toks (fun b o hb e => hs.extBut b o (fun q => hb (by simp [q])) e) (c2.mono (List.prefix_refl _) (imm_but (listIter_mut st) hs.extBut)) st')
  done := fun s ι' H Q E hpre hpi R hg st hQ => by
    obtain ⟨a, vs, e, g1, g2⟩ := items_at C R (hv ι' hpre s.heap) hg
    cases e
    refine wpAny_pyNext_list_end hh st g1 (by simp [g2.length]) fun h' hs => ?_
    exact hQ h' s.toks fun b o hb e => hs b o (fun q => hb (by simp [q])) e
  self := fun i s Q E st hQ => wpAny_pyIter_listiter st hQ

theorem I_list (C : CxOk G) (hh : hq = true) {target iter : Expr} (ht : Tgt target) {m : Cm V} (h1 : Ev G hq k env iter m) : EvI G hq k env target iter (m.bnd fun v => itOf G.sn v) := by
  intro A ι q s ha R
  refine Sat.of fun Q E hQ => ?_
  have h1' := h1 A ι q s ha R
  cases hm : m q with
  | stuck => rw [bnd_stuck hm] at hQ; exact hQ.elim
  | exc c q1 => rw [bnd_exc hm] at hQ; rw [hm] at h1'; exact h1' _ _ hQ
  | ok v q1 =>
    rw [bnd_ok hm] at hQ
    rw [hm] at h1'
    refine h1' _ _ fun ι1 cv s1 P1 hv => ?_
    unfold itOf at hQ
    cases hi : itemsOf G.sn v q1.H with
    | none => rw [hi] at hQ; exact hQ.elim
    | some xs =>
      rw [hi] at hQ
      obtain ⟨l, vs, rfl, g1, g2⟩ := items_at C P1.rel.st hv hi
      refine wpAny_pyIter_list g1 ?_
      have st : s1.heap.StaysIn (s1.heap.push { cls := .type "list_iterator", data := .fields #[.ref l, .int 0 0] }) := fun b o e => Heap.get?_push_of_some _ e
      have nw : s1.heap.get? s1.heap.objs.size = none := Heap.get?_none_of_le (Nat.le_refl _)
      have P2 := P1.trans (Post.stays (tk := s1.toks) P1.rel st)
      have hv2 : ∀ ι', ι1 <+: ι' → ∀ h, VRel G ι' h v (.ref l) := fun ι' hp h => by
        unfold itemsOf at hi
        split at hi
        · obtain ⟨a, e1, e2⟩ := hv; exact ⟨a, getElem?_prefix hp e1, e2⟩
        · exact hv
        · cases hi
      refine hQ ι1 _ _ P2 ⟨⟨s1.heap.objs.size, [s1.heap.objs.size], _, rfl, ⟨_, Heap.get?_push_size _ rfl, rfl, rfl⟩, fun b hb => ?_, fun _ _ => trivial, itr_list C (ha.hd hh) ht hv2 ?_ fun e => ?_⟩, fun q' e => ?_⟩
      · simp at hb; subst hb
        refine ⟨?_, (P1.rel.fresh_ne nw).1⟩
        cases e : s.heap.get? s1.heap.objs.size with
        | none => rfl
        | some o => obtain ⟨o', e'⟩ := P1.kp.size _ _ e; rw [nw] at e'; cases e'
      · unfold itemsOf at hi
        split at hi
        · exact .inl ⟨_, rfl⟩
        · exact .inr rfl
        · cases hi
      · obtain ⟨o, e', _⟩ := g1
        rw [e, nw] at e'; cases e'
      · cases e
        exact hi

/-- by a built-in's call -/
theorem I_blt (C : CxOk G) {target : Expr} {x : String} {bv : Value} {es : List Expr} {p pos : Pos} {m : Cm (List V)} {f : List V → Cm It} (hx : env.kindOf (Str.ofString x) = some .globalImplicit) (hv : nsIn G.K mainGlobals (Str.ofString x) = some none)
    (hb : bootBuiltins (Str.ofString x) = some bv) (hn : Str.ofString x ≠ "__name__") (hd : (Str.ofString x == ("__debug__" : Str)) = false) (hc : CallsBy bv) (h1 : EvL G hq k env es m) (hp : (backTo pos (starEach es env)).any (·.1) = false)
    (hf : ∀ A ι q s vs cvs, AOk hq k A env → Rel G A env ι q s → VRels G ι s.heap vs cvs → Sat G A env ι s (f vs q) (fun ι' h it cv => ItRel G A target s.heap ι' h it cv ∧ ∀ q', f vs q = .ok it q' → it.g q'.H)
      (fun Q E s => wpAny G.M A (call bv cvs) (fun x s₁ => wpAny G.M A (pyIter x) Q E s₁) E s)) :
    EvI G hq k env target (.Call (.Name (Str.ofString x) p) es [] pos) (m.bnd fun vs => f vs) := by
  intro A ι q s ha R
  refine Sat.of fun Q E hQ => ?_
  have h1' := h1 pos A ι q s ha R
  show wpAny G.M A (do callWith pos (← eval (.Name (Str.ofString x) p) env) [] (backTo pos (starEach es env)) []) _ E s
  refine wpAny_bind (blt_load C R hx hv hb hn hd ?_)
  refine hc _ _ _ _ _ _ _ hp (evalArgs_any hp ?_)
  cases hm : m q with
  | stuck => rw [bnd_stuck hm] at hQ; exact hQ.elim
  | exc c q1 => rw [bnd_exc hm] at hQ; rw [hm] at h1'; exact h1' _ _ hQ
  | ok vs q1 =>
    rw [bnd_ok hm] at hQ
    rw [hm] at h1'
    refine h1' _ _ fun ι1 cvs s1 P1 hv => ?_
    have h2 := hf A ι1 q1 s1 vs cvs ha P1.rel hv
    refine Sat.mono P1 h2 ?_
    cases hfv : f vs q1 with
    | stuck => rw [hfv] at hQ; exact hQ
    | exc c q2 => rw [hfv] at hQ; exact hQ
    | ok it q2 =>
      rw [hfv] at hQ
      refine fun ι2 cv s2 P2 r => hQ ι2 cv s2 P2 ⟨?_, fun q' e => ?_⟩
      · obtain ⟨⟨I, priv, St, e1, e2, e3, e4, e5⟩, _⟩ := r
        refine ⟨I, priv, St, e1, e2, fun b hb => ⟨?_, (e3 b hb).2⟩, e4, e5⟩
        cases e : s.heap.get? b with
        | none => rfl
        | some o => obtain ⟨o', e'⟩ := P1.kp.size _ _ e; rw [(e3 b hb).1] at e'; cases e'
      · exact r.2 q' e

def rangeL (a : Int) : Nat → List V
  | 0 => []
  | n + 1 => .int a :: rangeL (a + 1) n
theorem rangeL_length : ∀ (n : Nat) (a : Int), (rangeL a n).length = n
  | 0, _ => rfl
  | n + 1, a => by rw [rangeL, List.length_cons, rangeL_length n]
theorem rangeL_get : ∀ (n : Nat) (a : Int) (i : Nat) (x : V), (rangeL a n)[i]? = some x → x = .int (a + i) ∧ i < n
  | 0, a, i, x, e => by simp [rangeL] at e
  | n + 1, a, 0, x, e => by simp [rangeL] at e; exact ⟨by rw [← e]; simp, by omega⟩
  | n + 1, a, i + 1, x, e => by
    simp [rangeL] at e
    obtain ⟨h1, h2⟩ := rangeL_get n (a + 1) i x e
    exact ⟨by rw [h1]; congr 1; push_cast; omega, by omega⟩
def rangeV : List V → Cm It
  | [.int b] => if -1000000 < b ∧ b < 1000000 then .pur ⟨rangeL 0 b.toNat, fun _ => True⟩ else .stk
  | [.int a, .int b] => if (-1000000 < a ∧ a < 1000000) ∧ -1000000 < b ∧ b < 1000000 then .pur ⟨rangeL a (b - a).toNat, fun _ => True⟩ else .stk
  | _ => .stk

theorem itr_range (hh : A.handled = none) {x : Str} {p : Pos} {I : Addr} (a : Int) (n : Nat) :
    Itr G A (.Name x p) I [I] ι ⟨rangeL a n, fun _ => True⟩ (fun i h => IsRangeIter h I (a + (i : Nat)) ((n : Int) - (i : Nat)) 1) where
  mu := fun i h st b hb => by simp at hb; subst hb; exact ⟨_, st, .inl ⟨_, rfl, by decide⟩⟩
  frame := fun i h h' st hk => hk I (by simp) _ st
  item := fun i x s ι' H Q E hx hpre hpi R hg st hQ => by
    obtain ⟨rfl, hlt⟩ := rangeL_get _ _ _ _ hx
    refine wpAny_pyNext_range_item st (by omega) fun h' st' hs => ?_
    refine wpAny_pure (hQ _ h' _ (fun b o hb e => hs.extBut b o (fun q => hb (by simp [q])) e) (vInt _ _) ?_)
    rw [show a + ((i + 1 : Nat) : Int) = a + (i : Int) + 1 by push_cast; omega, show (n : Int) - ((i + 1 : Nat) : Int) = (n : Int) - (i : Int) - 1 by push_cast; omega]
    exact st'
  done := fun s ι' H Q E hpre hpi R hg st hQ => by
    refine wpAny_pyNext_range_end hh st (by dsimp only; rw [rangeL_length]; omega) fun h' hs => ?_
    exact hQ h' s.toks fun b o hb e => hs b o (fun q => hb (by simp [q])) e
  self := fun i s Q E st hQ => wpAny_pyIter_rangeiter st hQ

theorem P_rangeIter (hh : A.handled = none) {x : Str} {p : Pos} {a b : Int} {t u v : Tok} {tk : Nat} (R : Rel G A env ι q s) (ha : -1000000 < a ∧ a < 1000000) (hb : -1000000 < b ∧ b < 1000000) {Q : Value → Shared → Prop} {E : Value → Shared → Prop}
    (hQ : ∀ ι'' cv s'', Post G A env ι s ι'' q s'' → (ItRel G A (.Name x p) s.heap ι'' s''.heap ⟨rangeL a (b - a).toNat, fun _ => True⟩ cv) → Q cv s'') :
    wpAny G.M A (pyIter (.ref s.heap.objs.size)) Q E { s with heap := s.heap.push { cls := .type "range", data := .fields #[.int a t, .int b u, .int 1 v] }, toks := tk } := by
  have hsz : Builtin.Range.rangeSize a b 1 = (((b - a).toNat : Nat) : Int) := by
    unfold Builtin.Range.rangeSize
    simp
    split <;> omega
  refine wpAny_pyIter_range (Heap.get?_push_size _ rfl) ?_ ?_
  · unfold Builtin.Range.small
    have ft : ∀ z : Int, -1000000 < z → z < 2000000 → Builtin.Range.rangeFitsLong z = true := fun z h1 h2 => by unfold Builtin.Range.rangeFitsLong; simp; omega
    simp [hsz, ft a ha.1 (by omega), ft b hb.1 (by omega), ft 1 (by omega) (by omega), ft (max (b - a) 0) (by omega) (by omega)]
  · rw [hsz]
    have st : s.heap.StaysIn ((s.heap.push { cls := .type "range", data := .fields #[.int a t, .int b u, .int 1 v] }).push { cls := .type "range_iterator", data := .fields #[rawInt a, rawInt (((b - a).toNat : Nat) : Int), rawInt 1] }) :=
      fun c o e => Heap.get?_push_of_some _ (Heap.get?_push_of_some _ e)
    refine hQ ι _ _ (Post.stays R st) ⟨_, [_], _, rfl, ?_, fun c hc => ?_, fun _ _ => trivial, itr_range hh a (b - a).toNat⟩
    · have := Heap.get?_push_size (s.heap.push { cls := .type "range", data := .fields #[.int a t, .int b u, .int 1 v] }) (o := { cls := .type "range_iterator", data := .fields #[rawInt a, rawInt (((b - a).toNat : Nat) : Int), rawInt 1] }) rfl
      simpa using this
    · simp at hc; subst hc
      have nw : s.heap.get? (s.heap.push { cls := .type "range", data := .fields #[.int a t, .int b u, .int 1 v] }).objs.size = none := Heap.get?_none_of_le (by rw [Heap.size_push]; omega)
      rw [Heap.size_push] at nw
      exact ⟨nw, (R.fresh_ne nw).1⟩

theorem P_range (hh : A.handled = none) {x : Str} {p : Pos} (R : Rel G A env ι q s) {vs : List V} {cvs : List Value} (hv : VRels G ι s.heap vs cvs) :
    Sat G A env ι s (rangeV vs q) (fun ι' h it cv => ItRel G A (.Name x p) s.heap ι' h it cv ∧ ∀ q', rangeV vs q = .ok it q' → it.g q'.H)
      (fun Q E s => wpAny G.M A (call (.type "range") cvs) (fun x s₁ => wpAny G.M A (pyIter x) Q E s₁) E s) := by
  unfold rangeV
  split
  · rename_i b
    obtain ⟨cv, _, rfl, ⟨t, rfl⟩, e⟩ := hv; rw [show _ = [] from e]
    split
    · rename_i hb
      intro Q E hQ
      refine call_range_1 (P_rangeIter (b := b) hh R (by omega) hb fun ι2 cv s2 P r => hQ ι2 cv s2 P ⟨by simpa using r, fun q' e => ?_⟩)
      cases e; trivial
    · trivial
  · rename_i a b
    obtain ⟨cv, _, rfl, ⟨t, rfl⟩, cv2, _, rfl, ⟨t2, rfl⟩, e⟩ := hv; rw [show _ = [] from e]
    split
    · rename_i hb
      intro Q E hQ
      refine call_range_2 (P_rangeIter (b := b) hh R hb.1 hb.2 fun ι2 cv s2 P r => hQ ι2 cv s2 P ⟨r, fun q' e => ?_⟩)
      cases e; trivial
    · trivial
  · trivial

theorem I_range (C : CxOk G) (hh : hq = true) {x : Str} {px p pos : Pos} {es : List Expr} {m : Cm (List V)} (hx : env.kindOf (Str.ofString "range") = some .globalImplicit) (hv : nsIn G.K mainGlobals (Str.ofString "range") = some none)
    (h1 : EvL G hq k env es m) (hp : (backTo pos (starEach es env)).any (·.1) = false) : EvI G hq k env (.Name x px) (.Call (.Name (Str.ofString "range") p) es [] pos) (m.bnd fun vs => rangeV vs) :=
  I_blt C hx hv (bv := .type "range") (by decide +kernel) (by decide) (by decide) (callsBy_type _) h1 hp fun A ι q s vs cvs ha R hv => P_range (ha.hd hh) R hv
end
end Mine

set_option Elab.async false
set_option linter.unusedVariables false
namespace Mine
open PySem PySem.W PyProof.Rows

/-! ### raise -/
def nsPlain (K : Frag) (N : Addr) : Bool := match K.lookup N with
  | some ⟨_, _, .dict es _, _⟩ => es.toList.all (fun e => match e.key with | .str _ _ => true | _ => false) && (nsFind es "__init__").isNone
  | _ => false
def bmVE : List Value := [.type "ValueError", .type "Exception", .type "BaseException", .type "object"]
def xTail (K : Frag) : List Value → Bool
  | .ref a :: tl => (match K.lookup a with | some ⟨_, _, .cls cd, _⟩ => nsPlain K cd.ns && xTail K tl | _ => false)
  | l => decide (l = bmVE)
/-- an own exception class, by the text's classes from ValueError -/
def xclOk (K : Frag) (C : Addr) : Bool := match K.lookup C with
  | some ⟨.type "type", _, .cls cd, sl⟩ => (match cd.mro with
      | .ref C' :: bm => decide (C' = C) && xTail K bm
      | _ => false) && !cd.hasDel && decide (sl.size = 6) && decide (sl[4]? = some (some (.builtin "ValueError.__new__"))) && nsPlain K cd.ns
  | _ => false

theorem nsPlain_ns {K : Frag} {N : Addr} {h : Heap} (X : K.In h) (x : nsPlain K N = true) : ∃ m, h.Ns N m ∧ m "__init__" = none := by
  unfold nsPlain at x
  split at x
  · rename_i c d es n sl hl
    rw [Bool.and_eq_true, List.all_eq_true] at x
    refine ⟨nsFind es, ⟨_, es, n, X _ _ hl, rfl, fun e he => ?_, fun _ => rfl⟩, Option.isNone_iff_eq_none.mp x.2⟩
    have := x.1 e (Array.mem_toList_iff.mpr he)
    cases hk : e.key <;> simp [hk] at this
    exact ⟨_, _, rfl⟩
  · cases x
theorem xTail_own {K : Frag} {h : Heap} (X : K.In h) : ∀ {l : List Value}, xTail K l = true → OwnTail h bmVE l
  | [], x => by simp [xTail, bmVE] at x
  | v :: tl, x => by
    cases v with
    | ref a =>
      simp only [xTail] at x
      split at x
      · rename_i c d cd sl hl
        rw [Bool.and_eq_true] at x
        obtain ⟨m, hn, hi⟩ := nsPlain_ns X x.1
        exact .own (X _ _ hl) hn hi (xTail_own X x.2)
      · cases x
    | _ => simp only [xTail, decide_eq_true_eq] at x; rw [x]; exact .base

theorem xcl_of {K : Frag} {C : Addr} {h : Heap} (X : K.In h) (x : xclOk K C = true) :
    ∃ nm q N bs bm hdct sn sub ab col dd k0 k1 k2 k3 k5 mN, h.get? C = some (excClassObj nm q C N bs bm hdct sn sub ab col dd k0 k1 k2 k3 k5 "ValueError.__new__") ∧
      K.lookup C = some (excClassObj nm q C N bs bm hdct sn sub ab col dd k0 k1 k2 k3 k5 "ValueError.__new__") ∧ h.Ns N mN ∧ mN "__init__" = none ∧ OwnTail h bmVE bm := by
  unfold xclOk at x
  split at x
  · rename_i oc dd cd sl hl
    obtain ⟨nm, bs, mro, N, q, hdct, sn, sub, ab, col, hdel⟩ := cd
    simp only [Bool.and_eq_true, decide_eq_true_eq, Bool.not_eq_true'] at x
    obtain ⟨⟨⟨⟨hm, hdl⟩, hsz⟩, hmk⟩, hns⟩ := x
    split at hm
    · rename_i C' bm
      simp only [Bool.and_eq_true, decide_eq_true_eq] at hm
      obtain ⟨rfl, ht⟩ := hm
      obtain ⟨l⟩ := sl
      obtain ⟨k0, k1, k2, k3, k5, rfl⟩ := six_places (l := l) (by simpa using hsz) (by simpa using hmk)
      obtain rfl : hdel = false := hdl
      obtain ⟨m, hn, hi⟩ := nsPlain_ns X hns
      exact ⟨nm, q, N, bs, bm, hdct, sn, sub, ab, col, dd, k0, k1, k2, k3, k5, m, X _ _ hl, hl, hn, hi, xTail_own X ht⟩
    · cases hm
  · cases x

section
variable {G : Cx} {hq : Bool} {k : Nat} {env : Env} {A : Around} {ι ι' : List Addr} {q q' : S} {s s' : Shared} {H H' : Hp} {h : Heap}

theorem XPost.made {c : String} {C e : Addr} {args : List Value} {h' : Heap} {tk : Nat} (ha : AOk hq k A env) (R : Rel G A env ι q s) (hc : G.xcl c = some C) (hm : Heap.MadeExcOf s.heap h' e (.ref C) args) :
    XPost G A env ι s c ι q { s with heap := h', toks := tk } (.ref e) := by
  have fsn : ∀ env' ∈ A.frames.getD [], ∀ L, env'.frame = some L → L ∈ frs A := fun env' he L hf => List.mem_filterMap.mpr ⟨env', he, hf⟩
  have frm : ∀ a ∈ frs A, ∃ o, s.heap.get? a = some o ∧ (∃ es n, o.data = .dict es n) ∧ a ∉ ι ∧ G.hB.get? a = none := fun a hf => by
    obtain ⟨e', he, hf'⟩ := List.mem_filterMap.mp hf
    obtain ⟨_, L, o, h1, h2, h3, h4, h5⟩ := R.fs e' he
    obtain rfl : L = a := Option.some.inj (h1.symm.trans hf')
    exact ⟨o, h2, h3, h4, h5⟩
  have get : ∀ a o, s.heap.get? a = some o → a ∉ frs A → (hideAll s.heap (frs A)).get? a = some o := fun a o e n => hideAll_get _ e n
  have im : Imm s.heap (hideAll s.heap (frs A)) := fun a o e hmu => ⟨o.slots, get a o e fun hf => by
    obtain ⟨o', e', ⟨es, n, d⟩, _⟩ := frm a hf
    rw [e] at e'; cases e'; exact hmu (.inr (.inl ⟨es, n, d⟩))⟩
  have bs : (hideAll s.heap (frs A)).StaysIn h' := fun b o e => hm.keeps b o (of_hideAll _ e)
  have st : StOk G ι q.H (hideAll s.heap (frs A)) := ⟨fun b o e => get b o (R.st.keep b o e) (fun hf => by obtain ⟨_, _, _, _, n⟩ := frm b hf; rw [n] at e; cases e), R.st.len, R.st.nodup, R.st.fresh,
    fun i a o e1 e2 => (R.st.obj i a o e1 e2).at (List.prefix_refl _) im fun o' e' => get a o' e' fun hf => by obtain ⟨_, _, _, n, _⟩ := frm a hf; exact n (List.mem_of_getElem? e1)⟩
  obtain ⟨fenv, rest, f1, f2, _⟩ := ha.fr
  have hfm : fenv ∈ A.frames.getD [] := by rw [f1]; exact .head _
  obtain ⟨_, L, oL, g1, _⟩ := R.fs fenv hfm
  obtain ⟨t, ht, htn, ht'⟩ := hm.there
  have cellEx : ∀ c o v, s.heap.get? c = some o → o.data = .cell v → (hideAll s.heap (frs A)).get? c = some o := fun c o v e hd => get c o e fun hf => by
    obtain ⟨o', e', ⟨es, n, d⟩, _⟩ := frm c hf
    rw [e] at e'; cases e'; rw [hd] at d; cases d
  refine ⟨List.prefix_refl _, ⟨e, C, hideAll s.heap (frs A), L, rfl, hc, f2.symm.trans g1, ⟨bs, ?_, ?_, _, _, .ref t, ht, rfl, rfl, rfl, .inl rfl⟩, st, ?_, R.fs.stays hm.keeps, fun a o e hW hf => get a o e hf⟩,
    Dom.of_stays hm.keeps, fun a o e _ => ⟨o.slots, hm.keeps a o e⟩, fun _ h => .inl h, R.gens, R.os⟩
  · cases q : (hideAll s.heap (frs A)).get? e with
    | none => rfl
    | some o => have := of_hideAll _ q; rw [hm.new] at this; cases this
  · have : ∀ fs : List Env, (∀ e ∈ fs, e ∈ A.frames.getD []) → h'.FunFrames (hideAll s.heap (frs A)) fs := fun fs => by
      induction fs with
      | nil => intro _; trivial
      | cons f r ih =>
        intro hmem
        obtain ⟨n1, L', o', n2, n3, ⟨es, n, n4⟩, _⟩ := R.fs f (hmem f (.head _))
        exact ⟨n1, ⟨L', o', n2, hideAll_none _ (fsn f (hmem f (.head _)) L' n2), hm.keeps _ _ n3, fun vs q => by rw [n4] at q; cases q⟩, ih fun e he => hmem e (.tail _ he)⟩
    exact this _ fun e he => he
  · refine ⟨R.fr.kind, R.fr.glob, R.fr.blt, ?_, ?_, ?_, R.fr.ndup, R.fr.dis, R.fr.fresh⟩
    · obtain ⟨m, hn, hmm⟩ := R.fr.loc
      exact ⟨m, hn.keeps hm.keeps, fun y v e e2 => let ⟨cv, a, b⟩ := hmm y v e e2; ⟨cv, a, b.mono (List.prefix_refl _) im⟩⟩
    · intro y v e e2
      obtain ⟨c, o, cv, h1, h2, h3, h4⟩ := R.fr.cel y v e e2
      exact ⟨c, o, cv, h1, cellEx c o _ h2 h3, h3, h4.mono (List.prefix_refl _) im⟩
    · intro p hp
      obtain ⟨o, ov, h1, h2⟩ := R.fr.cells p hp
      exact ⟨o, ov, cellEx p.2 o _ h1 h2, h2⟩

def raiseV {α : Type} (c : String) : Cm α := fun q => .exc c q

theorem X_raise (C : CxOk G) (hh : hq = true) {x : String} {a : Addr} {es : List Expr} {np cpos pos : Pos} {m : Cm (List V)} (hx : env.kindOf (Str.ofString x) = some .globalImplicit)
    (hv : nsIn G.K mainGlobals (Str.ofString x) = some (some (.ref a))) (hc : G.xcl x = some a) (ho : xclOk G.K a = true) (hd : (Str.ofString x == ("__debug__" : Str)) = false) (h1 : EvL G hq k env es m) (hl : es.length ≤ 5)
    (hp : (backTo cpos (starEach es env)).any (·.1) = false) (hlen : ∀ q vs q', m q = .ok vs q' → vs.length ≤ 1000) :
    Ex G hq k env (.Raise (some (.Call (.Name (Str.ofString x) np) es [] cpos)) none pos) (m.bnd fun _ => raiseV x) := by
  intro A ι q s ha R
  refine Sat.of fun Q E hQ => ?_
  obtain ⟨nm, qn, N, bs, bm, hdct, sn, sub, ab, col, dd, k0, k1, k2, k3, k5, mN, hC, _, hN, hni, T⟩ := xcl_of C.X ho
  refine wpAny_Raise_call_subT (C := a) (nm := nm) (q := qn) (N := N) (bs := bs) (bm := bm) (hdct := hdct) (sn := sn) (sub := sub) (ab := ab) (col := col) (dd := dd) (k0 := k0) (k1 := k1) (k2 := k2) (k3 := k3) (k5 := k5) (mN := mN)
    F.excBase_ValueError (T.hasType (by decide)) (ha.hd hh) hp hni (glob_load C R hx hv hd ⟨rfl, evalArgs_any hp ?_⟩)
  have h1' := h1 cpos A ι q s ha R
  cases hm : m q with
  | stuck => rw [bnd_stuck hm] at hQ; exact hQ.elim
  | exc c q1 => rw [bnd_exc hm] at hQ; rw [hm] at h1'; exact h1' _ _ hQ
  | ok vs q1 =>
    rw [bnd_ok hm] at hQ
    rw [hm] at h1'
    refine h1' _ _ fun ι1 cvs s1 P1 hv1 => ⟨rfl, by have := hlen q vs q1 hm; rw [hv1.length, sizeLine_eq]; omega, P1.rel.st.keep _ _ hC, hN.keeps P1.rel.st.keep, T.keeps P1.rel.st.keep, fun h' e hme => ?_⟩
    exact hQ ι1 (.ref e) _ (P1.transX (XPost.made (tk := s1.toks) ha P1.rel hc hme))
end
end Mine

set_option Elab.async false
set_option linter.unusedVariables false
namespace Mine
open PySem PySem.W PyProof.Rows

section
variable {G : Cx} {hq : Bool} {k : Nat} {env : Env} {A : Around} {ι ι' : List Addr} {q q' : S} {s s' : Shared} {H H' : Hp} {h : Heap}

/-! ### try -/
theorem Rel.mark {e : Option Value} (R : Rel G A env ι q s) : Rel G (A.mark e) env ι q s := ⟨R.st, R.fr, R.fs, R.gens, R.os⟩
theorem Rel.unmark {e : Option Value} (R : Rel G (A.mark e) env ι q s) : Rel G A env ι q s := ⟨R.st, R.fr, R.fs, R.gens, R.os⟩
theorem Post.unmark {e : Option Value} (P : Post G (A.mark e) env ι s ι' q' s') : Post G A env ι s ι' q' s' := ⟨P.pre, P.rel.unmark, P.kp, P.new⟩
def Landed (e C : Addr) (h : Heap) : Prop := ∃ oe vs T oT ts, h.get? e = some oe ∧ oe.cls = .ref C ∧ oe.data = .fields vs ∧ vs[1]? = some (.ref T) ∧ h.get? T = some oT ∧ oT.data = .fields ts ∧ ts[3]? = some .none

theorem XPost.caught {c : String} {ev : Value} {Q : Unit → Shared → Prop} {E : Value → Shared → Prop} (ha : AOk hq k A env) (x : XPost G A env ι s c ι' q' s' ev)
    (hQ : ∀ e C s₃, ev = .ref e → G.xcl c = some C → Landed e C s₃.heap → Post G A env ι s ι' q' s₃ → Q () s₃) :
    wpAny G.M A (noteFrame ev env) (fun _ s₂ => wpAny G.M A (setFlight ev none) Q E s₂) E s' := by
  refine x.noted ha fun e s₂ he hh y => ?_
  subst he
  obtain ⟨e1, C, B, L, g1, g2, g3, fl, g5, g6, g7, g8⟩ := y.ex
  cases g1
  obtain ⟨b1, b2, b3, oe, vs, a0, c1, c2, c3, c4, c5⟩ := id fl
  obtain ⟨L', oe', vs', T', oT', ts', h0, h1, h2, h3, h4, h5, h6⟩ := hh
  rw [c1] at h1; cases h1
  rw [c3] at h2; cases h2
  rw [g3] at h0; cases h0
  rcases c5 with c5 | ⟨T, oT, ts, fl', d1, d2, d3, d4, d5, d6, d7⟩
  · rw [c5] at h3; cases h3
  · rw [d1] at h3; cases h3
    rw [d4] at h4; cases h4
    rw [d5] at h5; cases h5
    rw [d6] at h6; cases h6
    have held : Heap.HeldW B (A.frames.getD []) e (.ref C) a0 L s₂.heap := ⟨b1, b2, b3, _, _, _, _, _, c1, ⟨c2, c4⟩, c3, d1, d2, d3, d4, d5, d6⟩
    refine wpAny_landsW held fun h₃ hf up => ?_
    obtain ⟨k1, k2, k3, oe3, vs3, T3, oT3, ts3, e1, ⟨e2, e2'⟩, e3, e4, e5, e6, e7, e8, e9⟩ := hf
    have z := y.at rfl g2 g3 ⟨k1, k2, k3, oe3, vs3, a0, e1, e2, e3, e2', .inr ⟨T3, oT3, ts3, .none, e4, e5, e6, e7, e8, e9, .inl rfl⟩⟩ g5 g6 g7 g8 up
    refine hQ e C _ rfl g2 ⟨oe3, vs3, T3, oT3, ts3, e1, e2, e3, e4, e7, e8, e9⟩ ⟨z.pre, ⟨g5.stays k1, (g6.slots up).stays k1 fun _ _ e => e, g7.slots up, z.gens, z.os⟩, ⟨z.size, z.up, fun a o e hW hf => k1 _ _ (g8 a o e hW hf)⟩, z.new⟩

theorem landed_again {e C : Addr} {Q : Unit → Shared → Prop} {E : Value → Shared → Prop} (hl : Landed e C s.heap) (hQ : Q () s) : wpAny G.M A (setFlight (.ref e) none) Q E s := by
  obtain ⟨oe, vs, T, oT, ts, h1, h2, h3, h4, h5, h6, h7⟩ := hl
  unfold setFlight
  refine wpAny_bind (wpAny_field h1 h3 h4 ?_)
  rw [if_pos (show (Value.ref T != Value.none) = true from by simp)]
  refine wpAny_setField h5 h6 (Array.getElem?_eq_some_iff.mp h7).1 ?_
  show Q () { s with heap := s.heap.update T (Obj.mapFields (·.setIfInBounds 3 .none)) }
  rw [Heap.update_setField_same s.heap T oT ts 3 .none h5 h6 h7]
  exact hQ

def HdOk (G : Cx) (k : Nat) (env : Env) (hs : List ExceptHandler) (c : String) (m : Cm Fl) : Prop :=
  ∀ A ι q s e C, AOk false k A env → Rel G A env ι q s → G.xcl c = some C → Landed e C s.heap →
    match m q with
    | .ok f q' => ∀ Q E, (∀ ι' b s', Post G A env ι s ι' q' s' → FlRel G ι' s'.heap f b → Q b s') → wpAny G.M A (handleBy (.ref e) env hs) Q E s
    | _ => True

theorem hd_stk {hs : List ExceptHandler} {c : String} : HdOk G k env hs c .stk := fun A ι q s e C _ _ _ _ => trivial

def tryV (m : Cm Fl) (sel : String → Cm Fl) : Cm Fl := fun q => match m q with
  | .ok f q' => .ok f q'
  | .exc c q' => (match sel c q' with | .ok f q'' => .ok f q'' | _ => .stuck)
  | .stuck => .stuck

theorem AOk.any (ha : AOk hq k A env) : AOk false k A env := ⟨⟨(fun h => by cases h), ha.depth, ha.units⟩, ha.fr⟩

theorem X_try {body : List Stmt} {h0 : ExceptHandler} {hs : List ExceptHandler} {pos : Pos} {m : Cm Fl} {sel : String → Cm Fl} (h1 : Exs G hq k env body m) (h2 : ∀ c, HdOk G k env (h0 :: hs) c (sel c)) :
    Ex G hq k env (.Try body (h0 :: hs) [] [] pos) (tryV m sel) := by
  intro A ι q s ha R
  refine Sat.of fun Q E hQ => wpAny_Try_except ?_
  have h1' := h1 A ι q s ha R
  unfold tryV at hQ
  cases hm : m q with
  | stuck => rw [hm] at hQ; exact hQ.elim
  | ok f q1 =>
    rw [hm] at hQ h1'
    refine h1' _ _ fun ι1 cf s1 P1 hf => ?_
    have := hQ ι1 cf s1 P1 hf
    cases f with
    | next => rw [show cf = .next from hf] at this ⊢; exact wpAny_execs_nil this
    | ret v => obtain ⟨cv, rfl, _⟩ := hf; exact this
  | exc c q1 =>
    rw [hm] at hQ h1'
    dsimp only at hQ
    refine h1' _ _ fun ι1 ev s1 x => ?_
    refine x.caught ha fun e C s3 he hc hl P => ?_
    subst he
    have h2' := h2 c A ι1 q1 s3 e C ha.any P.rel hc hl
    cases hs : sel c q1 with
    | stuck => rw [hs] at hQ; exact hQ.elim
    | exc c q2 => rw [hs] at hQ; exact hQ.elim
    | ok f q2 =>
      rw [hs] at hQ h2'
      exact h2' Q E fun ι2 b s4 P4 hf => hQ ι2 b s4 (P.trans P4) hf

theorem mark_aok {e : Value} (ha : AOk false k A env) : AOk false k (A.mark (some e)) env := ⟨⟨(fun h => by cases h), ha.depth, ha.units⟩, ha.fr⟩

theorem landed_match (C : CxOk G) {e a b : Addr} {r : Bool} (R : Rel G A env ι q s) (hl : Landed e a s.heap) (hx : exmOne G.K (.ref a) (.ref b) = some r) {Q : Bool → Shared → Prop} {E : Value → Shared → Prop} (hQ : Q r s) :
    wpAny G.M A (excMatches (.ref e) (.ref b)) Q E s := by
  obtain ⟨oe, vs, T, oT, ts, h1, h2, _⟩ := hl
  have X := C.X.keeps R.st.keep
  refine exm_one (M := G.M) (h := s.heap) X ?_ hx A Q E s (fun _ _ e => e) hQ
  rw [← h2]
  exact (Looks.ld h1).andThen .now

theorem H_hit (C : CxOk G) {x c : String} {np pos : Pos} {a b : Addr} {b₀ : Stmt} {suite : List Stmt} {rest : List ExceptHandler} {m : Cm Fl} (hx : env.kindOf (Str.ofString x) = some .globalImplicit)
    (hv : nsIn G.K mainGlobals (Str.ofString x) = some (some (.ref b))) (hd : (Str.ofString x == ("__debug__" : Str)) = false) (hc : G.xcl c = some a) (hm : exmOne G.K (.ref a) (.ref b) = some true) (h1 : Exs G false k env (b₀ :: suite) m) :
    HdOk G k env (.ExceptHandler (some (.Name (Str.ofString x) np)) none (b₀ :: suite) pos :: rest) c m := by
  intro A ι q s e a' ha R hc' hl
  obtain rfl : a = a' := Option.some.inj (hc.symm.trans hc')
  have R' : Rel G (A.mark (some (.ref e))) env ι q s := R.mark
  have h1' := h1 (A.mark (some (.ref e))) ι q s (mark_aok ha) R'
  cases hmq : m q with
  | stuck => trivial
  | exc c q1 => trivial
  | ok f q1 =>
    rw [hmq] at h1'
    intro Q E hQ
    refine wpAny_handleBy_cons (codeAny_handlers_test (glob_load C R' hx hv hd (landed_match C R' hl hm ?_))) (by intro q; cases q)
    refine codeAny_handlers_suite (landed_again hl ?_)
    exact h1' _ _ fun ι' b s' P hf => hQ ι' b s' P.unmark hf

end
end Mine

set_option Elab.async false
set_option linter.unusedVariables false
namespace Mine
open PySem PySem.W PyProof.Rows

def initL : List String → List V → Loc
  | p :: ps, v :: vs => upd (initL ps vs) p v
  | _, _ => fun _ => none

def fnV (ps : List String) (m : Cm Fl) : Fc := fun vs H => if vs.length = ps.length then (match m ⟨initL ps vs, H⟩ with
  | .ok (.ret v) q => .ok v q.H
  | .ok .next q => .ok .none q.H
  | .exc c q => .exc c q.H
  | .stuck => .stuck) else .stuck

section
variable {G : Cx} {hq : Bool} {k : Nat} {env : Env} {A : Around} {ι ι' : List Addr} {q q' : S} {s s' : Shared} {H H' : Hp} {h : Heap}

def bnds (ps : List String) (vs : List Value) : List (Str × Value) := (ps.map Str.ofString).zip vs

theorem bind_local {kindOf : Str → Option NameKind} : ∀ (ps : List String) (vs : List V) (cvs : List Value) (m : Str → Option Value), ps.Nodup → VRels G ι h vs cvs → vs.length = ps.length →
    (∀ x v, initL ps vs x = some v → kindOf (Str.ofString x) = some .local → ∃ cv, bindL kindOf (bnds ps cvs) m (Str.ofString x) = some cv ∧ VRel G ι h v cv) ∧
    (∀ x v, initL ps vs x = some v → kindOf (Str.ofString x) ≠ some .local → ∃ cv, bindC kindOf (bnds ps cvs) m (Str.ofString x) = some cv ∧ VRel G ι h v cv) ∧
    (∀ x, x ∉ ps.map Str.ofString → bindL kindOf (bnds ps cvs) m x = m x ∧ bindC kindOf (bnds ps cvs) m x = m x) ∧ ∀ x v, initL ps vs x = some v → x ∈ ps
  | [], vs, cvs, m, _, hv, hl => by
    have : vs = [] := List.length_eq_zero_iff.mp hl
    subst this
    exact ⟨fun x v e => by simp [initL] at e, fun x v e => by simp [initL] at e, fun x _ => ⟨rfl, rfl⟩, fun x v e => by simp [initL] at e⟩
  | p :: ps, [], cvs, m, _, hv, hl => by simp at hl
  | p :: ps, v :: vs, cvs, m, hn, ⟨cv, cvs', e, r1, r2⟩, hl => by
    subst e
    rw [List.nodup_cons] at hn
    have hl' : vs.length = ps.length := by simpa using hl
    have hp : Str.ofString p ∉ ps.map Str.ofString := fun hm => by
      obtain ⟨y, hy, e⟩ := List.mem_map.mp hm
      exact hn.1 (ofString_inj e ▸ hy)
    have step : bnds (p :: ps) (cv :: cvs') = (Str.ofString p, cv) :: bnds ps cvs' := rfl
    have hin : ∀ x v', initL (p :: ps) (v :: vs) x = some v' → (x = p ∧ v' = v) ∨ (x ≠ p ∧ initL ps vs x = some v') := fun x v' e => upd_some e
    have B := fun m' => bind_local (kindOf := kindOf) ps vs cvs' m' hn.2 r2 hl'
    refine ⟨fun x v' e1 e2 => ?_, fun x v' e1 e2 => ?_, fun x hx => ?_, fun x v' e1 => ?_⟩
    · rcases hin x v' e1 with ⟨rfl, rfl⟩ | ⟨hne, e⟩
      · rw [step]; unfold bindL; rw [if_pos e2, ((B _).2.2.1 _ hp).1]; exact ⟨cv, if_pos rfl, r1⟩
      · rw [step]; unfold bindL; exact (B _).1 x v' e e2
    · rcases hin x v' e1 with ⟨rfl, rfl⟩ | ⟨hne, e⟩
      · rw [step]; unfold bindC; rw [if_neg e2, ((B _).2.2.1 _ hp).2]; exact ⟨cv, if_pos rfl, r1⟩
      · rw [step]; unfold bindC; exact (B _).2.1 x v' e e2
    · rw [List.map_cons, List.mem_cons, not_or] at hx
      rw [step]
      unfold bindL bindC
      refine ⟨((B _).2.2.1 x hx.2).1.trans ?_, ((B _).2.2.1 x hx.2).2.trans ?_⟩
      · split <;> first | exact if_neg hx.1 | rfl
      · split <;> first | exact if_neg hx.1 | rfl
    · rcases hin x v' e1 with ⟨rfl, rfl⟩ | ⟨hne, e⟩
      · exact .head _
      · exact .tail _ ((B (fun _ => none)).2.2.2 x v' e)

/-- an exception leaves its frame -/
theorem XPost.leave {c : String} {ev : Value} {outer : List Env} {R : Result → Shared → Prop} {E : Value → Shared → Prop} {s₁ : Shared} {fA : Around} (hf : fA.frames = some (env :: outer)) (hA : A.frames = some outer) (x : XPost G fA env ι s₁ c ι' q' s' ev)
    (st : s.heap.StaysIn s₁.heap) (own0 : ∀ a ∈ own env, s.heap.get? a = none) (frm : env.frame = some env.locals)
    (hR : ∀ s'', CXPost G A ι s c ι' q'.H s'' ev → R (.error ev) s'') : wpAny G.M fA (leaving env ev) (fun _ s'' => R (.error ev) s'') E s' := by
  obtain ⟨e, C, B, L, rfl, h2, h3, fl, h5, h6, h7, h8⟩ := x.ex
  have hfs : fA.frames.getD [] = env :: outer := by rw [hf]; rfl
  have hAs : A.frames.getD [] = outer := by rw [hA]; rfl
  have hL : L = env.locals := Option.some.inj (h3.symm.trans frm)
  have hfr : frs fA = env.locals :: frs A := by
    show (fA.frames.getD []).filterMap (·.frame) = _
    rw [hfs, List.filterMap_cons, frm]
    show _ = env.locals :: (A.frames.getD []).filterMap (·.frame)
    rw [hAs]
  rw [hfs] at fl h7
  obtain ⟨b1, b2, b3, oe, vs, a0, c1, c2, c3, c4, c5⟩ := id fl
  have nf : ∀ a o, s.heap.get? a = some o → a ∉ ι → a ∉ frs A → a ∉ own env ++ ι ∧ a ∉ frs fA := fun a o e hi hfa => by
    have ho : a ∉ own env := fun ho => by rw [own0 a ho] at e; cases e
    exact ⟨fun hm => (List.mem_append.mp hm).elim ho hi, fun hm => by
      rw [hfr] at hm
      rcases List.mem_cons.mp hm with rfl | hm
      · exact ho (.head _)
      · exact hfa hm⟩
  have exB : ∀ a o, s.heap.get? a = some o → a ∉ ι → a ∉ frs A → B.get? a = some o := fun a o e hi hfa => h8 a o (st a o e) (nf a o e hi hfa).1 (nf a o e hi hfa).2
  have fin : ∀ h'', Heap.FlyingW B outer e (.ref C) a0 h'' → s'.heap.UpToSlots h'' → R (.error (.ref e)) { s' with heap := h'' } := fun h'' fw up => by
    have fs'' : FsOk G outer ι' h'' := fun env' he => (h7.slots up) env' (.tail _ he)
    refine hR _ ⟨x.pre, ⟨e, C, B, a0, rfl, h2, by rw [hAs]; exact fw, h5, by rw [hAs]; exact fs'', exB⟩, fun a o ea => ?_, fun a o ea hi => ?_, fun a ha => ?_, x.gens, x.os⟩
    · by_cases h2 : a ∈ ι
      · obtain ⟨i, hi⟩ := List.mem_iff_getElem?.mp h2
        have hi' := getElem?_prefix x.pre hi
        obtain ⟨oa, hoa⟩ : ∃ oa, q'.H[i]? = some oa := ⟨_, List.getElem?_eq_getElem (h5.len ▸ (List.getElem?_eq_some_iff.mp hi').1)⟩
        obtain ⟨o', e'⟩ := (h5.obj i a oa hi' hoa).there
        exact ⟨o', fw.1 _ _ e'⟩
      · by_cases h3 : a ∈ frs A
        · obtain ⟨o', e', _⟩ := frames_mut (A := A) (by rw [hAs]; exact fs'') h3; exact ⟨o', e'⟩
        · exact ⟨o, fw.1 _ _ (exB a o ea h2 h3)⟩
    · by_cases h3 : a ∈ frs A
      · have ho : a ∉ own env := fun ho => by rw [own0 a ho] at ea; cases ea
        obtain ⟨sl, e1⟩ := x.up a o (st a o ea) fun hm => (List.mem_append.mp hm).elim ho hi
        obtain ⟨o', e', es, n, d⟩ := frames_mut (A := A) (ι := ι') (h := s'.heap) (fun env' he => h7 env' (by rw [hAs] at he; exact .tail _ he)) h3
        rw [e1] at e'; cases e'
        obtain ⟨sl2, e2⟩ := up a _ e1 fun vs q => by rw [d] at q; cases q
        exact ⟨sl2, e2⟩
      · exact ⟨o.slots, fw.1 _ _ (exB a o ea hi h3)⟩
    · rcases x.new a ha with h1 | h1
      · exact .inl h1
      · refine .inr ?_
        cases e : s.heap.get? a with
        | none => rfl
        | some o => rw [st a o e] at h1; cases h1
  rcases c5 with c5 | ⟨T, oT, ts, fl', d1, d2, d3, d4, d5, d6, d7⟩
  · refine wpAny_leaving_firstW hf b3 h3 c1 b1 b2 c3 c5 c4 fun h'' hl => ?_
    obtain ⟨k1, ⟨_, _, k2⟩, k3, k4⟩ := hl
    exact fin h'' ⟨k1, b2, k2, by rw [← c2]; exact k3⟩ k4
  · rcases d7 with rfl | rfl
    · refine wpAny_leaving_nextW (cls := .ref C) (a0 := a0) hf b3 h3 ⟨oe, vs, T, oT, ts, c1, ⟨c2, c4⟩, c3, d1, d2, d3, d4, d5, d6⟩ b1 b2 fun h'' hl => ?_
      obtain ⟨k1, ⟨_, _, k2⟩, k3, k4⟩ := hl
      exact fin h'' ⟨k1, b2, k2, k3⟩ k4
    · unfold leaving
      refine wpAny_bind (wpAny_noteFrame_againW h3 ⟨oe, vs, T, oT, ts, c1, ⟨c2, c4⟩, c3, d1, d2, d3, d4, d5, d6⟩ ?_)
      refine wpAny_landsW (base := B) (l := env :: outer) (cls := .ref C) (a0 := a0) (L := L) ⟨b1, b2, b3, oe, vs, T, oT, ts, c1, ⟨c2, c4⟩, c3, d1, d2, d3, d4, d5, d6⟩ fun h'' hl up => ?_
      obtain ⟨k1, k2, ⟨_, _, k3⟩, k4⟩ := hl
      exact fin h'' ⟨k1, k2, k3, k4⟩ up

/-- the shape of a def: all that is asked of its object -/
structure FnShape (K : Frag) (f : Addr) (fd : FuncData) (ps : List String) (body : List Stmt) : Prop where
  at' : ∃ oc od sl, K.lookup f = some ⟨oc, od, .func fd, sl⟩
  code : codeIn K fd.code fd.qualname = true
  body : fd.body = .stmts body
  clo : fd.closure = []
  glob : fd.globals = mainGlobals
  blt : fd.builtins = builtinsNs
  bind : ∀ vals, vals.length = ps.length → bindArgs fd ⟨vals, []⟩ = pure (bnds ps vals)
  kinds : ∀ x ∈ ps, fd.scope.names.lookup (Str.ofString x) = some .local ∨ fd.scope.names.lookup (Str.ofString x) = some .cell
  nd : ps.Nodup
  ndc : ((cellsFrom 0 fd.scope.names []).map (·.1)).Nodup
  co : fd.scope.isCoroutine = false
  gen : fd.scope.isGenerator = false
  kd : fd.scope.kind = .function

theorem FnOk.of (C : CxOk G) {f : Addr} {fd : FuncData} {ps : List String} {body : List Stmt} {m : Cm Fl} (Z : FnShape G.K f fd ps body) (hm : ∀ L, Exs G hq k (callEnvC fd L f) body m) : FnOk G hq (k + 1) f (fnV ps m) := by
  intro A ι H s vs cvs ha ⟨fs, hfs⟩ S0 F0 hgens hos hv
  have hfs' : A.frames.getD [] = fs := by rw [hfs]; rfl
  unfold fnV
  by_cases hlen : vs.length = ps.length
  · rw [if_pos hlen]
    have hlc : cvs.length = ps.length := hv.length.trans hlen
    obtain ⟨oc, od, sl, hK⟩ := Z.at'
    have X := C.X.keeps S0.keep
    have key : ∀ R : Result → Shared → Prop, (∀ s₁, InCallC s (callEnvC fd s.heap.objs.size f).locals (bindL (callEnvC fd s.heap.objs.size f).kindOf (bnds ps cvs) fun _ => none) (callEnvC fd s.heap.objs.size f).cells
        (bindC (callEnvC fd s.heap.objs.size f).kindOf (bnds ps cvs) fun _ => none) s₁ →
      wpAny (model G.prog G.w) (A.deeper (callEnvC fd s.heap.objs.size f)) (execs body (callEnvC fd s.heap.objs.size f)) (fun f s' => R (.ok (.ret (match f with | .ret v => v | _ => .none))) s')
        (fun e s' => wpAny (model G.prog G.w) (A.deeper (callEnvC fd s.heap.objs.size f)) (leaving (callEnvC fd s.heap.objs.size f) e) (fun _ s'' => R (.error e) s'') (fun e' s'' => R (.error e') s'') s') s₁) →
        codeAny G.M A (.call (.ref f) ⟨cvs, []⟩) R s := fun R hh => by
      refine codeAny_call_cells (fd := fd) (body := body) (by have := ha.depth; show A.depth < 1000; omega) (X _ _ hK) rfl (C.lim.keeps S0.keep) (codeRec_of X Z.code) Z.body (Z.bind cvs hlc) Z.clo (fun x hx => ?_) hh Z.co Z.gen Z.kd
      have : x.1 ∈ ps.map Str.ofString := (List.of_mem_zip hx).1
      obtain ⟨y, hy, e⟩ := List.mem_map.mp this
      rw [← e]
      rcases Z.kinds y hy with h1 | h1
      · exact .inl h1
      · exact .inr ⟨h1, cellsFrom_some _ _ _ (.inl h1)⟩
    have start : ∀ s₁, InCallC s (callEnvC fd s.heap.objs.size f).locals (bindL (callEnvC fd s.heap.objs.size f).kindOf (bnds ps cvs) fun _ => none) (callEnvC fd s.heap.objs.size f).cells
        (bindC (callEnvC fd s.heap.objs.size f).kindOf (bnds ps cvs) fun _ => none) s₁ →
        AOk hq k (A.deeper (callEnvC fd s.heap.objs.size f)) (callEnvC fd s.heap.objs.size f) ∧ Rel G (A.deeper (callEnvC fd s.heap.objs.size f)) (callEnvC fd s.heap.objs.size f) ι ⟨initL ps vs, H⟩ s₁ ∧ s.heap.StaysIn s₁.heap ∧
          ∀ a ∈ own (callEnvC fd s.heap.objs.size f), s.heap.get? a = none := fun s₁ I => by
      have st : s.heap.StaysIn s₁.heap := I.toInCall.keep
      have ab : ∀ a ∈ own (callEnvC fd s.heap.objs.size f), s.heap.get? a = none := fun a ha => by
        refine Heap.get?_none_of_le ?_
        rcases List.mem_cons.mp ha with rfl | ha
        · exact Nat.le_refl _
        · obtain ⟨p, hp, rfl⟩ := List.mem_map.mp ha
          exact Nat.le_of_lt (I.above p.1 p.2 hp)
      have dis : ∀ a ∈ own (callEnvC fd s.heap.objs.size f), a ∉ ι ∧ G.hB.get? a = none := fun a ha => by
        have n := ab a ha
        refine ⟨fun hi => ?_, ?_⟩
        · obtain ⟨o, e, _⟩ := StOk.mut (q := ⟨fun _ => none, H⟩) S0 hi; rw [n] at e; cases e
        · cases e : G.hB.get? a with
          | none => rfl
          | some o => rw [S0.keep a o e] at n; cases n
      obtain ⟨hh, tk, es⟩ := I.toInCall.same
      have hv1 := hv.mono (List.prefix_refl ι) (Imm.of_stays st)
      obtain ⟨bl, _, _, mem⟩ := bind_local (kindOf := (callEnvC fd s.heap.objs.size f).kindOf) ps vs cvs (fun _ => none) Z.nd hv1 hlen
      obtain ⟨_, bc, _, _⟩ := bind_local (kindOf := (callEnvC fd s.heap.objs.size f).kindOf) ps vs cvs (fun _ => none) Z.nd hv1 hlen
      have cellAt : ∀ p ∈ (callEnvC fd s.heap.objs.size f).cells, (callEnvC fd s.heap.objs.size f).cells.lookup p.1 = some p.2 := fun p hp => by
        refine lookup_of_mem_nodup ?_ hp
        show ((cellsFrom (s.heap.objs.size + 1) fd.scope.names []).map (·.1)).Nodup
        rw [cellsFrom_names fd.scope.names (s.heap.objs.size + 1) 0 [] [] rfl]
        exact Z.ndc
      refine ⟨⟨⟨ha.hd, by have := ha.depth; show A.depth + 1 + 3 * k ≤ 800; omega, by have := ha.units; show A.units + 3 + 50 * k ≤ 9000; omega⟩, ?_⟩, ⟨S0.stays st, ?_, ?_, ?_, ?_⟩, st, ab⟩
      · exact ⟨callEnvC fd s.heap.objs.size f, fs, Around.frames_deeper hfs, rfl, Z.gen, Z.co, Z.blt, Z.glob⟩
      · refine ⟨Z.kd, Z.glob, Z.blt, ⟨_, I.toInCall.ns, bl⟩, fun x v e1 e2 => ?_, fun p hp => ?_, ?_, fun a ha => (dis a ha).1, fun a ha => (dis a ha).2⟩
        · obtain ⟨cv, c1, c2⟩ := bc x v e1 (by rcases e2 with e2 | e2 <;> rw [e2] <;> decide)
          have hk : fd.scope.names.lookup (Str.ofString x) = some .cell := by
            rcases Z.kinds x (mem x v e1) with h1 | h1
            · have e3 : (callEnvC fd s.heap.objs.size f).kindOf (Str.ofString x) = some .local := h1
              rw [e3] at e2; rcases e2 with e2 | e2 <;> cases e2
            · exact h1
          obtain ⟨c, hc⟩ := Option.isSome_iff_exists.mp (cellsFrom_some fd.scope.names (s.heap.objs.size + 1) [] (.inl hk))
          obtain ⟨o, ho, hd⟩ := I.cell _ _ hc
          rw [c1] at hd
          exact ⟨c, o, cv, hc, ho, hd, c2⟩
        · obtain ⟨o, ho, hd⟩ := I.cell _ _ (cellAt p hp)
          exact ⟨o, _, ho, hd⟩
        · exact List.pairwise_map.mpr I.apart
      · show FsOk G ((A.deeper (callEnvC fd s.heap.objs.size f)).frames.getD []) ι s₁.heap
        rw [Around.frames_deeper hfs]
        intro env' he
        rcases List.mem_cons.mp he with rfl | he
        · obtain ⟨o, es', ep, ho, hd, _⟩ := I.toInCall.ns
          exact ⟨by rw [show (callEnvC fd s.heap.objs.size f).scope.kind = .function from Z.kd]; decide, _, o, rfl, ho, ⟨es', ep, hd⟩, (dis _ (.head _)).1, (dis _ (.head _)).2⟩
        · rw [hfs'] at F0; exact F0.stays st env' he
      · rw [es]; exact hgens
      · rw [es]; exact hos
    have back : ∀ {s₁ ι' q' s'}, Post G (A.deeper (callEnvC fd s.heap.objs.size f)) (callEnvC fd s.heap.objs.size f) ι s₁ ι' q' s' → s.heap.StaysIn s₁.heap → (∀ a ∈ own (callEnvC fd s.heap.objs.size f), s.heap.get? a = none) →
        CPost G A ι s ι' q'.H s' := fun {s₁ ι' q' s'} P st ab => by
      have nf : ∀ a o, s.heap.get? a = some o → a ∉ ι → a ∉ own (callEnvC fd s.heap.objs.size f) ++ ι := fun a o e hi hm => (List.mem_append.mp hm).elim (fun ho => by rw [ab a ho] at e; cases e) hi
      refine ⟨P.pre, P.rel.st, fun env' he => ?_, ⟨fun a o e => P.kp.size a o (st a o e), fun a o e hi => P.kp.up a o (st a o e) (nf a o e hi), fun a o e hi hf => P.kp.ex a o (st a o e) (nf a o e hi) fun hm => ?_⟩, fun a ha => ?_, P.rel.gens, P.rel.os⟩
      · have := P.rel.fs
        rw [Around.frames_deeper hfs] at this
        rw [hfs'] at he
        exact this env' (.tail _ he)
      · unfold frs at hm hf
        rw [Around.frames_deeper hfs] at hm
        rw [hfs'] at hf
        rcases List.mem_cons.mp hm with rfl | hm
        · have : s.heap.get? s.heap.objs.size = some o := e
          rw [Heap.get?_none_of_le (Nat.le_refl _)] at this; cases this
        · exact hf hm
      · rcases P.new a ha with h1 | h1
        · exact .inl h1
        · refine .inr ?_
          cases e : s.heap.get? a with
          | none => rfl
          | some o => rw [st a o e] at h1; cases h1
    cases hmm : m ⟨initL ps vs, H⟩ with
    | stuck => trivial
    | ok fl q1 =>
      cases fl with
      | next =>
        intro R hR
        refine key R fun s₁ I => ?_
        obtain ⟨ha', R', st, ab⟩ := start s₁ I
        have h1 := hm s.heap.objs.size _ _ _ _ ha' R'
        rw [hmm] at h1
        refine h1 _ _ fun ι' cf s' P hf => ?_
        rw [show cf = .next from hf]
        exact hR ι' .none s' (back P st ab) rfl
      | ret v =>
        intro R hR
        refine key R fun s₁ I => ?_
        obtain ⟨ha', R', st, ab⟩ := start s₁ I
        have h1 := hm s.heap.objs.size _ _ _ _ ha' R'
        rw [hmm] at h1
        refine h1 _ _ fun ι' cf s' P hf => ?_
        obtain ⟨cv, rfl, hv⟩ := hf
        exact hR ι' cv s' (back P st ab) hv
    | exc c q1 =>
      intro R hR
      refine key R fun s₁ I => ?_
      obtain ⟨ha', R', st, ab⟩ := start s₁ I
      have h1 := hm s.heap.objs.size _ _ _ _ ha' R'
      rw [hmm] at h1
      refine h1 _ _ fun ι' ev s' x => ?_
      exact x.leave (A := A) (Around.frames_deeper hfs) hfs st ab rfl fun s'' y => hR ι' ev s'' y
  · rw [if_neg hlen]; trivial
end
end Mine

set_option Elab.async false
set_option linter.unusedVariables false
namespace Mine
open PySem PySem.W PyProof.Rows

section
variable {G : Cx} {hq : Bool} {k : Nat} {env : Env} {A : Around} {ι ι' : List Addr} {q q' : S} {s s' : Shared} {H H' : Hp} {h : Heap}

def makeV (c : String) (F : Fc) (vs : List V) : Cm V := fun q => match F (.inst c q.H.length :: vs) (q.H ++ [.flds []]) with
  | .ok .none H' => .ok (.inst c q.H.length) ⟨q.l, H'⟩
  | .ok _ _ => .stuck
  | .exc c' H' => .exc c' ⟨q.l, H'⟩
  | .stuck => .stuck

theorem VRel.none_of {cv : Value} (x : VRel G ι h .none cv) : cv = .none := x

theorem CPost.frames {A' : Around} (e : A'.frames = A.frames) (x : CPost G A' ι s ι' H' s') : CPost G A ι s ι' H' s' :=
  ⟨x.pre, x.st, by rw [← e]; exact x.fs, by have := x.kp; unfold frs at *; rw [← e]; exact this, x.new, x.gens, x.os⟩
theorem CXPost.frames {A' : Around} {c : String} {ev : Value} (e : A'.frames = A.frames) (x : CXPost G A' ι s c ι' H' s' ev) : CXPost G A ι s c ι' H' s' ev :=
  ⟨x.pre, by have := x.ex; unfold frs at *; rw [← e]; exact this, x.size, x.up, x.new, x.gens, x.os⟩

theorem P_make (C : CxOk G) {c : String} {a fI : Addr} {F : Fc} {k0 : Nat} (hc : G.cls c = some a) (hm : makesIn G.K a = true) (hi : findIn G.K (.ref a) "__init__" = some (some (.ref fI))) (hf : typeIn G.K (.ref fI) = some (.type "function"))
    (hF : FnOk G hq k0 fI F) (hk : k0 < k) (ha : AOk hq k A env) (R : Rel G A env ι q s) {vs : List V} {cvs : List Value} (hv : VRels G ι s.heap vs cvs) :
    Sat G A env ι s (makeV c F vs q) (VRel G) (fun Q E s => codeAny G.M A (.call (.ref a) ⟨cvs, []⟩) (wantV Q E) s) := by
  have X := C.X.keeps R.st.keep
  have st : s.heap.StaysIn ((s.heap.push emptyDict).push (instObj a s.heap.objs.size)) := fun b o e => Heap.get?_push_of_some _ (Heap.get?_push_of_some _ e)
  have nw : s.heap.get? s.heap.objs.size = none := Heap.get?_none_of_le (Nat.le_refl _)
  have gd : ((s.heap.push emptyDict).push (instObj a s.heap.objs.size)).get? s.heap.objs.size = some emptyDict := by heap_get
  have gi : ((s.heap.push emptyDict).push (instObj a s.heap.objs.size)).get? (s.heap.objs.size + 1) = some (instObj a s.heap.objs.size) := by heap_get
  have P1 : Post G A env ι s (ι ++ [s.heap.objs.size]) { q with H := q.H ++ [.flds []] } { s with heap := (s.heap.push emptyDict).push (instObj a s.heap.objs.size), toks := s.toks } :=
    Post.alloc R st nw ⟨[], 0, gd, rfl⟩
  have vi : ∀ {ι' h'}, (ι ++ [s.heap.objs.size]) <+: ι' → Imm ((s.heap.push emptyDict).push (instObj a s.heap.objs.size)) h' → VRel G ι' h' (.inst c q.H.length) (.ref (s.heap.objs.size + 1)) := fun {ι' h'} hp him =>
    VRel.mono (v := .inst c q.H.length) hp him ⟨s.heap.objs.size, s.heap.objs.size + 1, a, _, by rw [← R.st.len]; simp, hc, rfl, gi, rfl, rfl, rfl⟩
  have hu : (A.under (.builtin "type.__call__" ⟨.ref a :: cvs, []⟩)).frames = A.frames := rfl
  have hr := hF (A.under (.builtin "type.__call__" ⟨.ref a :: cvs, []⟩)) (ι ++ [s.heap.objs.size]) (q.H ++ [.flds []]) { s with heap := (s.heap.push emptyDict).push (instObj a s.heap.objs.size), toks := s.toks } (.inst c q.H.length :: vs) (.ref (s.heap.objs.size + 1) :: cvs)
    ⟨ha.hd, by have := ha.depth; show A.depth + 1 + 3 * k0 ≤ 800; omega, by have := ha.units; show A.units + (1 + 3 * 0) + 50 * k0 ≤ 9000; omega⟩ (let ⟨fenv, rest, h1, _⟩ := ha.fr; ⟨_, h1⟩) P1.rel.st P1.rel.fs P1.rel.gens P1.rel.os
    (vCons (vi (List.prefix_refl _) (.refl _)) (hv.mono P1.pre (Imm.of_stays st)))
  have core : ∀ R' : Result → Shared → Prop, codeAny G.M (A.under (.builtin "type.__call__" ⟨.ref a :: cvs, []⟩)) (.call (.ref fI) ⟨.ref (s.heap.objs.size + 1) :: cvs, []⟩) (InitBack (s.heap.objs.size + 1) R') { s with heap := (s.heap.push emptyDict).push (instObj a s.heap.objs.size), toks := s.toks } →
      codeAny G.M A (.call (.ref a) ⟨cvs, []⟩) R' s := fun R' z => by
    obtain ⟨hh, g, d, t, os⟩ := s
    exact make_core (makes_of X hm) (looks_findIn X hi) (fun self => bind_fn X self hf) (.inl rfl) z
  unfold makeV
  cases hFv : F (.inst c q.H.length :: vs) (q.H ++ [.flds []]) with
  | stuck => trivial
  | ok v H' =>
    rw [hFv] at hr
    cases v <;> try trivial
    intro Q E hQ
    refine core _ (hr _ fun ι' cv s' c r => ?_)
    rw [VRel.none_of r]
    have P2 := Post.ofC P1.rel (CPost.frames hu c)
    exact ⟨rfl, hQ ι' _ s' (P1.trans P2) (vi P2.pre (P1.rel.imm P2.kp))⟩
  | exc c' H' =>
    rw [hFv] at hr
    intro Q E hQ
    refine core _ (hr _ fun ι' ev s' x => ?_)
    exact hQ ι' ev s' (P1.transX (XPost.ofC (q := { q with H := q.H ++ [.flds []] }) ha P1.rel (CXPost.frames hu x)))

theorem E_make (C : CxOk G) {x : String} {a fI : Addr} {F : Fc} {k0 : Nat} {es : List Expr} {p pos : Pos} {m : Cm (List V)} (hx : env.kindOf (Str.ofString x) = some .globalImplicit)
    (hv : nsIn G.K mainGlobals (Str.ofString x) = some (some (.ref a))) (hkeep : keepIn G.K (.ref a) = true) (hd : (Str.ofString x == ("__debug__" : Str)) = false) (hc : G.cls x = some a) (hm : makesIn G.K a = true)
    (hi : findIn G.K (.ref a) "__init__" = some (some (.ref fI))) (hf : typeIn G.K (.ref fI) = some (.type "function")) (hF : FnOk G hq k0 fI F) (hk : k0 < k) (h1 : EvL G hq k env es m)
    (hp : (backTo pos (starEach es env)).any (·.1) = false) :
    Ev G hq k env (.Call (.Name (Str.ofString x) p) es [] pos) (m.bnd fun vs => makeV x F vs) := by
  intro A ι q s ha R
  refine (Sat.bnd (T' := fun vs Q E s₁ => G.K.In s₁.heap ∧ codeAny G.M A (.call (.ref a) ⟨vs, []⟩) (wantV Q E) s₁) (h1 pos A ι q s ha R) fun a' q' ι' b s' _ P hv =>
    (P_make C hc hm hi hf hF hk ha P.rel hv).imp fun Q E z => ⟨C.X.keeps P.rel.st.keep, z⟩).imp fun Q E y => ?_
  show wpAny G.M A (do callWith pos (← eval (.Name (Str.ofString x) p) env) [] (backTo pos (starEach es env)) []) Q E s
  refine wpAny_bind (glob_load C R hx hv hd ?_)
  exact callWith_of (P := G.K.In) (by rw [hp]; rfl) (keeps_K hkeep) (evalArgs_any hp (wpAny_mono y (fun vs s₁ z => ⟨z.1, wpAny_call z.2⟩) fun _ _ z => z))
end
end Mine

set_option Elab.async false
set_option linter.unusedVariables false
namespace Mine
open PySem PySem.W PyProof.Rows

section
variable {G : Cx} {hq : Bool} {k : Nat} {env : Env} {A : Around} {ι ι' : List Addr} {q q' : S} {s s' : Shared} {H H' : Hp} {h : Heap}

theorem hd_if {hs : List ExceptHandler} {x c : String} {m m' : Cm Fl} (h1 : HdOk G k env hs x m) (h2 : HdOk G k env hs c m') : HdOk G k env hs c (if c = x then m else m') := by
  by_cases e : c = x
  · subst e; rw [if_pos rfl]; exact h1
  · rw [if_neg e]; exact h2
theorem lookup_mem {L : List (String × Addr)} {c : String} {a : Addr} (e : L.lookup c = some a) : (c, a) ∈ L := mem_of_lookup e
theorem hasF_of {f : String} {L : List (String × Addr)} (hL : ∀ c, G.cls c = L.lookup c) (h : (L.all fun p => attrOk G.K p.2 (Str.ofString f)) = true) : HasF G f := fun c a e =>
  (List.all_eq_true.mp h) (c, a) (lookup_mem ((hL c).symm.trans e))
theorem hasS_of {f : String} {L : List (String × Addr)} (hL : ∀ c, G.cls c = L.lookup c) (h : (L.all fun p => setOk G.K p.2 (Str.ofString f)) = true) : HasS G f := fun c a e =>
  (List.all_eq_true.mp h) (c, a) (lookup_mem ((hL c).symm.trans e))
end
theorem len1 {α : Type} {l : List α} (h : l.length = 1) : ∃ a, l = [a] := List.length_eq_one_iff.mp h
theorem lenS {α : Type} {n : Nat} {l : List α} (h : l.length = n + 1) : ∃ a r, l = a :: r ∧ r.length = n := by
  cases l with
  | nil => cases h
  | cons a r => exact ⟨a, r, rfl, by simpa using h⟩
theorem len2 {α : Type} {l : List α} (h : l.length = 2) : ∃ a b, l = [a, b] := by obtain ⟨a, r, rfl, h2⟩ := lenS h; obtain ⟨b, rfl⟩ := len1 h2; exact ⟨a, b, rfl⟩
theorem len3 {α : Type} {l : List α} (h : l.length = 3) : ∃ a b c, l = [a, b, c] := by obtain ⟨a, r, rfl, h2⟩ := lenS h; obtain ⟨b, c, rfl⟩ := len2 h2; exact ⟨a, b, c, rfl⟩
theorem len4 {α : Type} {l : List α} (h : l.length = 4) : ∃ a b c d, l = [a, b, c, d] := by obtain ⟨a, r, rfl, h2⟩ := lenS h; obtain ⟨b, c, d, rfl⟩ := len3 h2; exact ⟨a, b, c, d, rfl⟩
end Mine

set_option Elab.async false
set_option linter.unusedVariables false
namespace Mine
open PySem PySem.W PyProof.Rows

theorem run_of {G : Cx} (C : CxOk G) {f : Addr} {F : Fc} {k : Nat} (hF : FnOk G true k f F) (hk : k ≤ 100) {s₁ : Shared} (hB : G.hB = s₁.heap) (hos : s₁.os = G.os) (hg : s₁.gens = #[]) (hval : ∃ H', F [.scr] [] = .ok (.bool true) H')
    {R : Result → Shared → Prop} (hR : ∀ s', (∀ b o, s₁.heap.get? b = some o → s'.heap.get? b = some o) → s'.os = s₁.os → s'.gens = #[] → R (.ok (.ret (.bool true))) s') :
    codeAny G.M callerA (.call (.ref f) ⟨[.ref G.sa], []⟩) R s₁ := by
  obtain ⟨H', hv⟩ := hval
  have st : StOk G [] [] s₁.heap := ⟨by rw [hB]; exact fun _ _ e => e, rfl, List.nodup_nil, fun a ha => (nomatch ha), fun i a o e => by simp at e⟩
  have := hF callerA [] [] s₁ [.scr] [.ref G.sa] ⟨fun _ => rfl, by show 301 + 3 * k ≤ 800; omega, by show 4 + 50 * k ≤ 9000; omega⟩ ⟨[], rfl⟩ st (fun env he => by cases he) hg hos (vCons rfl vNil)
  rw [hv] at this
  refine this R fun ι' cv s' P r => ?_
  rw [show cv = .bool true from r]
  exact hR s' (fun b o e => P.st.keep b o (by rw [hB]; exact e)) (by rw [P.os, hos]) P.gens
end Mine

set_option Elab.async false
set_option linter.unusedVariables false
set_option linter.unusedSimpArgs false
namespace Mine
open PySem PySem.W PyProof.Rows

/-! ## running abstract programs -/
section
variable {α β : Type} {q q' : S} {l : Loc} {H : Hp}
theorem r_bnd (m : Cm α) (f : α → Cm β) (q : S) : (m.bnd f) q = match m q with | .ok a q' => f a q' | .exc c q' => .exc c q' | .stuck => .stuck := rfl
theorem r_pur (a : α) (q : S) : Cm.pur a q = .ok a q := rfl
theorem r_get (x : String) (l : Loc) (H : Hp) : getV x ⟨l, H⟩ = match l x with | some v => .ok v ⟨l, H⟩ | none => .stuck := rfl
theorem r_set (x : String) (v : V) (l : Loc) (H : Hp) : setV x v ⟨l, H⟩ = .ok () ⟨upd l x v, H⟩ := rfl
theorem r_seq (m m' : Cm Fl) (q : S) : seqV m m' q = match m q with | .ok .next q' => m' q' | .ok (.ret v) q' => .ok (.ret v) q' | .exc c q' => .exc c q' | .stuck => .stuck := by
  unfold seqV Cm.bnd
  cases m q with
  | ok a q' => cases a <;> rfl
  | exc c q' => rfl
  | stuck => rfl
theorem r_call (F : Fc) (vs : List V) (l : Loc) (H : Hp) : callF F vs ⟨l, H⟩ = match F vs H with | .ok v H' => .ok v ⟨l, H'⟩ | .exc c H' => .exc c ⟨l, H'⟩ | .stuck => .stuck := rfl
theorem r_make (c : String) (F : Fc) (vs : List V) (l : Loc) (H : Hp) : makeV c F vs ⟨l, H⟩ = match F (.inst c H.length :: vs) (H ++ [.flds []]) with
  | .ok .none H' => .ok (.inst c H.length) ⟨l, H'⟩ | .ok _ _ => .stuck | .exc c' H' => .exc c' ⟨l, H'⟩ | .stuck => .stuck := rfl
theorem r_try (m : Cm Fl) (sel : String → Cm Fl) (q : S) : tryV m sel q = match m q with | .ok f q' => .ok f q' | .exc c q' => (match sel c q' with | .ok f q'' => .ok f q'' | _ => .stuck) | .stuck => .stuck := rfl
theorem r_raise (c : String) (q : S) : raiseV (α := α) c q = .exc c q := rfl
theorem r_ite {b : Bool} (m m' : Cm α) (q : S) : (if b = true then m else m') q = if b = true then m q else m' q := by cases b <;> rfl
theorem r_fn (ps : List String) (m : Cm Fl) (vs : List V) (H : Hp) : fnV ps m vs H = if vs.length = ps.length then (match m ⟨initL ps vs, H⟩ with
  | .ok (.ret v) q => .ok v q.H | .ok .next q => .ok .none q.H | .exc c q => .exc c q.H | .stuck => .stuck) else .stuck := rfl
theorem r_newL (vs : List V) (l : Loc) (H : Hp) : newL vs ⟨l, H⟩ = if vs.length ≤ 1000000 then .ok (.ref H.length) ⟨l, H ++ [.list vs]⟩ else .stuck := rfl
theorem r_attr (f c : String) (i : Nat) (l : Loc) (H : Hp) : attrV f (.inst c i) ⟨l, H⟩ = match H[i]? with | some (.flds fs) => (match fs.lookup f with | some v => .ok v ⟨l, H⟩ | none => .stuck) | _ => .stuck := rfl
theorem r_setAttr (f c : String) (v : V) (i : Nat) (l : Loc) (H : Hp) : setAttrV f v (.inst c i) ⟨l, H⟩ = match H[i]? with | some (.flds fs) => if fs.length < 100 then .ok () ⟨l, H.set i (.flds (fset f v fs))⟩ else .stuck | _ => .stuck := rfl
theorem r_meth (c0 f c : String) (i : Nat) (l : Loc) (H : Hp) : methV c0 f (.inst c i) ⟨l, H⟩ = if c = c0 then (match H[i]? with | some (.flds fs) => (match fs.lookup f with | some _ => .stuck | none => .ok () ⟨l, H⟩) | _ => .stuck) else .stuck := rfl
theorem r_kind (i : Nat) (l : Loc) (H : Hp) : kindV (.ref i) ⟨l, H⟩ = match H[i]? with | some (.list _) => .ok true ⟨l, H⟩ | some (.dict _) => .ok false ⟨l, H⟩ | _ => .stuck := rfl
theorem r_isi (sn : List Int) (T : String) (v : V) (l : Loc) (H : Hp) : isiV sn T v ⟨l, H⟩ = match tyOf sn H v with | some t => .ok (.bool (t == T || (t == "bool" && T == "int"))) ⟨l, H⟩ | none => .stuck := rfl
theorem r_itOf (sn : List Int) (v : V) (l : Loc) (H : Hp) : itOf sn v ⟨l, H⟩ = match itemsOf sn v H with | some xs => .ok ⟨xs, fun H => itemsOf sn v H = some xs⟩ ⟨l, H⟩ | none => .stuck := rfl
theorem r_truth (b : Bool) : truthV (.bool b) = Cm.pur b := rfl
theorem r_append {i : Nat} {xs : List V} (v : V) (l : Loc) (H : Hp) (h : H[i]? = some (.list xs)) (hl : xs.length < 1000000) : appendV (.ref i) v ⟨l, H⟩ = .ok .none ⟨l, H.set i (.list (xs ++ [v]))⟩ := by
  simp [appendV, h, hl]
theorem r_listOf {o : V} {xs : List V} (sn : List Int) (l : Loc) (H : Hp) (h : itemsOf sn o H = some xs) (hl : xs.length ≤ 1000000) : listOfV sn [o] ⟨l, H⟩ = .ok (.ref H.length) ⟨l, H ++ [.list xs]⟩ := by
  simp [listOfV, h, hl]

theorem upd_same (l : Loc) (x : String) (v : V) : upd l x v x = some v := by simp [upd]
theorem upd_ne (l : Loc) {x y : String} (v : V) (h : y ≠ x) : upd l x v y = l y := by simp [upd, h]
end

/-! ### loops -/
section
variable {g : Hp → Prop} {bd : V → Cm Unit} {body : Cm Fl}
open Classical in
theorem forV_cons (x : V) (r : List V) (q : S) : forV g bd body (x :: r) q = match ((bd x).bnd fun _ => body) q with
    | .ok .next q' => if g q'.H then forV g bd body r q' else .stuck
    | .ok (.ret v) q' => .ok (.ret v) q'
    | .exc c q' => .exc c q'
    | .stuck => .stuck := by
  show ((bd x).bnd fun _ => body.bnd (turnV g (forV g bd body r))) q = _
  simp only [r_bnd]
  cases bd x q with
  | stuck => rfl
  | exc c q' => rfl
  | ok u q' =>
    dsimp only
    cases body q' with
    | stuck => rfl
    | exc c q' => rfl
    | ok f q' => cases f <;> rfl
theorem forV_next {x : V} {r : List V} {q q' : S} (h : ((bd x).bnd fun _ => body) q = .ok .next q') (hg : g q'.H) : forV g bd body (x :: r) q = forV g bd body r q' := by rw [forV_cons, h]; exact if_pos hg
theorem forV_ret {x : V} {r : List V} {q q' : S} {v : V} (h : ((bd x).bnd fun _ => body) q = .ok (.ret v) q') : forV g bd body (x :: r) q = .ok (.ret v) q' := by rw [forV_cons, h]
theorem forV_ind (I : List V → S → Prop) (step : ∀ x r q, I (x :: r) q → ∃ q', ((bd x).bnd fun _ => body) q = .ok .next q' ∧ g q'.H ∧ I r q') : ∀ xs q, I xs q → ∃ q', forV g bd body xs q = .ok .next q' ∧ I [] q'
  | [], q, h => ⟨q, rfl, h⟩
  | x :: r, q, h => by
    obtain ⟨q', h1, h2, h3⟩ := step x r q h
    rw [forV_next h1 h2]
    exact forV_ind I step r q' h3
end

/-! ### data -/
theorem shaped_int (i : Int) : SeqAt.shaped (.int i) = true := by simp [SeqAt.shaped, PyData.canLay0, PyData.depth]
theorem shaped_bool (i : Bool) : SeqAt.shaped (.bool i) = true := by simp [SeqAt.shaped, PyData.canLay0, PyData.depth]
def Sh (n : Nat) (d : PyData) : Prop := d.canLay0 = true ∧ d.depth ≤ n
theorem sh_int (n : Nat) (i : Int) : Sh n (.int i) := ⟨by simp [PyData.canLay0], by simp [PyData.depth]⟩
theorem sh_bool (n : Nat) (i : Bool) : Sh n (.bool i) := ⟨by simp [PyData.canLay0], by simp [PyData.depth]⟩
theorem sh_all {n : Nat} : ∀ {ds : List PyData}, (∀ d ∈ ds, Sh n d) → PyData.canLayAll0 ds = true ∧ PyData.depthAll ds ≤ n
  | [], _ => ⟨by simp [PyData.canLayAll0], by simp [PyData.depthAll]⟩
  | d :: ds, h => by
    obtain ⟨h1, h2⟩ := sh_all (n := n) fun e he => h e (.tail _ he)
    obtain ⟨h3, h4⟩ := h d (.head _)
    exact ⟨by simp [PyData.canLayAll0, h1, h3], by simp only [PyData.depthAll]; exact Nat.max_le.mpr ⟨h4, h2⟩⟩
theorem sh_list {n : Nat} {ds : List PyData} (h : ∀ d ∈ ds, Sh n d) : Sh (n + 1) (.list ds) := by
  obtain ⟨h1, h2⟩ := sh_all h
  exact ⟨by simpa [PyData.canLay0] using h1, by simp [PyData.depth]; omega⟩
theorem Sh.shaped {n : Nat} {d : PyData} (h : Sh n d) (hn : n ≤ 64) : SeqAt.shaped d = true := by
  unfold SeqAt.shaped; rw [h.1]; have := h.2; simp; omega

theorem mapO_map {α β γ : Type} (f : β → Option γ) (g : α → β) (h : α → γ) (e : ∀ x, f (g x) = some (h x)) : ∀ xs : List α, mapO f (xs.map g) = some (xs.map h)
  | [] => rfl
  | x :: xs => by simp [mapO, e x, mapO_map f g h e xs]
theorem toD8_int (H : Hp) (i : Int) : toD H 8 (.int i) = some (.int i) := rfl
theorem toD8_bool (H : Hp) (i : Bool) : toD H 8 (.bool i) = some (.bool i) := rfl
theorem toD8_ref (H : Hp) (i : Nat) {xs : List V} {ds : List PyData} (h : H[i]? = some (.list xs)) (hd : mapO (toD H 7) xs = some ds) : toD H 8 (.ref i) = some (.list ds) := by
  show (match H[i]? with | some (.list xs) => (mapO (toD H 7) xs).map PyData.list | _ => none) = _
  rw [h]; dsimp only; rw [hd]; rfl
theorem toD_ints (H : Hp) (n : Nat) (xs : List Int) : mapO (toD H (n + 1)) (xs.map V.int) = some (xs.map PyData.int) := mapO_map (toD H (n + 1)) V.int PyData.int (fun _ => rfl) xs
theorem toD_bools (H : Hp) (n : Nat) (xs : List Bool) : mapO (toD H (n + 1)) (xs.map V.bool) = some (xs.map PyData.bool) := mapO_map (toD H (n + 1)) V.bool PyData.bool (fun _ => rfl) xs
theorem sh_ints (xs : List Int) : Sh 1 (.list (xs.map PyData.int)) := sh_list fun d hd => by obtain ⟨i, _, rfl⟩ := List.mem_map.mp hd; exact sh_int _ _
theorem sh_bools (xs : List Bool) : Sh 1 (.list (xs.map PyData.bool)) := sh_list fun d hd => by obtain ⟨i, _, rfl⟩ := List.mem_map.mp hd; exact sh_bool _ _

theorem eqvAll_map {α : Type} [DecidableEq α] (f : α → PyData) (h : ∀ x y, PyData.eqv (f x) (f y) = decide (x = y)) : ∀ xs ys : List α, PyData.eqvAll (xs.map f) (ys.map f) = decide (xs = ys)
  | [], [] => by simp [PyData.eqvAll]
  | [], y :: ys => by simp [PyData.eqvAll]
  | x :: xs, [] => by simp [PyData.eqvAll]
  | x :: xs, y :: ys => by
    simp only [List.map_cons, PyData.eqvAll, h, eqvAll_map f h xs ys, List.cons.injEq, Bool.decide_and]
theorem eqv_int (i j : Int) : PyData.eqv (.int i) (.int j) = decide (i = j) := by simp only [PyData.eqv]; rfl
theorem eqv_bool (i j : Bool) : PyData.eqv (.bool i) (.bool j) = decide (i = j) := by simp only [PyData.eqv]; rfl

theorem r_eq_int (i j : Int) (q : S) : eqV (.int i) (.int j) q = .ok (decide (i = j)) q := by
  simp only [eqV, eqD, toD8_int, Option.bind_some, shaped_int, Bool.and_self, if_true, eqv_int]
theorem r_eq_bool (i j : Bool) (q : S) : eqV (.bool i) (.bool j) q = .ok (decide (i = j)) q := by
  simp only [eqV, eqD, toD8_bool, Option.bind_some, shaped_bool, Bool.and_self, if_true, eqv_bool]
theorem r_eq_ints {i j : Nat} {xs ys : List Int} {q : S} (h1 : q.H[i]? = some (.list (xs.map .int))) (h2 : q.H[j]? = some (.list (ys.map .int))) : eqV (.ref i) (.ref j) q = .ok (decide (xs = ys)) q := by
  have t1 : toD q.H 8 (.ref i) = some (.list (xs.map PyData.int)) := toD8_ref _ _ h1 (toD_ints _ _ _)
  have t2 : toD q.H 8 (.ref j) = some (.list (ys.map PyData.int)) := toD8_ref _ _ h2 (toD_ints _ _ _)
  simp only [eqV, eqD, t1, t2, Option.bind_some, (sh_ints xs).shaped (by omega), (sh_ints ys).shaped (by omega), Bool.and_self, if_true, PyData.eqv, eqvAll_map PyData.int eqv_int]
/-! ### the heap -/
theorem pre_get {H H' : Hp} (p : H <+: H') {i : Nat} {o : O} (e : H[i]? = some o) : H'[i]? = some o := getElem?_prefix p e
theorem r_range1 (b : Int) (q : S) (h : -1000000 < b ∧ b < 1000000) : rangeV [.int b] q = .ok ⟨rangeL 0 b.toNat, fun _ => True⟩ q := by
  simp only [rangeV, if_pos h]; rfl
theorem fmod_range (a b : Int) (hb : 0 < b) : 0 ≤ a.fmod b ∧ a.fmod b < b := ⟨Int.fmod_nonneg_of_pos a hb, Int.fmod_lt_of_pos a hb⟩

/-! ### one statement after the other -/
def Nx (m : Cm Fl) (q : S) (P : S → Prop) : Prop := ∃ q', m q = .ok .next q' ∧ P q'
def Rt (m : Cm Fl) (q : S) (P : V → Hp → Prop) : Prop := ∃ v q', m q = .ok (.ret v) q' ∧ P v q'.H
section
variable {m m' : Cm Fl} {q : S} {P P' : S → Prop} {R : V → Hp → Prop}
theorem Nx.of {q' : S} (h : m q = .ok .next q') (hp : P q') : Nx m q P := ⟨q', h, hp⟩
theorem Rt.of {q' : S} {v : V} (h : m q = .ok (.ret v) q') (hp : R v q'.H) : Rt m q R := ⟨v, q', h, hp⟩
theorem seq_rt (h : Nx m q P) (k : ∀ q', P q' → Rt m' q' R) : Rt (seqV m m') q R := by
  obtain ⟨q1, h1, p1⟩ := h
  obtain ⟨v, q2, h2, p2⟩ := k q1 p1
  exact ⟨v, q2, by rw [r_seq, h1]; exact h2, p2⟩
theorem seq_at {q' : S} {r : Res S Fl} (h : m q = .ok .next q') (k : m' q' = r) : seqV m m' q = r := by rw [r_seq, h]; exact k
end

section
variable {m : Cm Fl} {ps : List String} {vs : List V} {H : Hp} {q : S} {v : V} {c : String}
theorem fn_next (hl : vs.length = ps.length) (h : m ⟨initL ps vs, H⟩ = .ok .next q) : fnV ps m vs H = .ok .none q.H := by rw [r_fn, if_pos hl, h]
theorem fn_ret (hl : vs.length = ps.length) (h : m ⟨initL ps vs, H⟩ = .ok (.ret v) q) : fnV ps m vs H = .ok v q.H := by rw [r_fn, if_pos hl, h]
theorem fn_exc (hl : vs.length = ps.length) (h : m ⟨initL ps vs, H⟩ = .exc c q) : fnV ps m vs H = .exc c q.H := by rw [r_fn, if_pos hl, h]
theorem seq_ret {m m' : Cm Fl} {q q' : S} {v : V} (h : m q = .ok (.ret v) q') : seqV m m' q = .ok (.ret v) q' := by rw [r_seq, h]
theorem seq_exc {m m' : Cm Fl} {q q' : S} {c : String} (h : m q = .exc c q') : seqV m m' q = .exc c q' := by rw [r_seq, h]
end
end Mine

set_option Elab.async false
set_option linter.unusedVariables false
set_option maxRecDepth 100000
namespace Mine
open PySem PySem.W PyProof.Rows

/-! ### isinstance on an exception -/
section
variable {prog : Program} {w : World} {A : Around} {E : Value → Shared → Prop} {h : Heap} {g : Array GenState} {d : Drawn} {t : Nat} {os : OsState} {a C : Addr} {o : Obj} {K : Frag}

end

section
variable {G : Cx} {hq : Bool} {k : Nat} {env : Env} {A : Around} {ι ι' : List Addr} {q q' : S} {s s' : Shared} {H H' : Hp} {h : Heap}
/-! ### list(range(..)) -/
end
end Mine

set_option Elab.async false
set_option linter.unusedVariables false
namespace Mine
open PySem PySem.W PyProof.Rows

/-! ### list comprehensions -/
def res (caps : List String) (l : Loc) : Loc := fun x => if x ∈ caps then l x else none

open Classical in
noncomputable def keepL {α : Type} (l : Loc) : Res S α → Res Hp α
  | .ok a q => if q.l = l then .ok a q.H else .stuck
  | _ => .stuck
noncomputable def compStep (bd : V → Cm Unit) (tst : Cm Bool) (elt : Cm V) (lc : Loc) (v : V) (H : Hp) : Res Hp (Option V) := match bd v ⟨lc, H⟩ with
  | .ok _ q1 => (match keepL q1.l (tst q1) with
    | .ok true H2 => (match keepL q1.l (elt ⟨q1.l, H2⟩) with | .ok y H3 => .ok (some y) H3 | _ => .stuck)
    | .ok false H2 => .ok none H2
    | _ => .stuck)
  | _ => .stuck
open Classical in
noncomputable def compF (g : Hp → Prop) (bd : V → Cm Unit) (tst : Cm Bool) (elt : Cm V) (lc : Loc) : List V → Hp → Res Hp (List V)
  | [], H => .ok [] H
  | v :: r, H => match compStep bd tst elt lc v H with
    | .ok o H' => if g H' then (match compF g bd tst elt lc r H' with | .ok ys H'' => .ok (o.toList ++ ys) H'' | _ => .stuck) else .stuck
    | _ => .stuck
noncomputable def compM (caps : List String) (mi : Cm It) (bd : V → Cm Unit) (tst : Cm Bool) (elt : Cm V) : Cm V := mi.bnd fun it => fun q =>
  if it.xs.length ≤ 1000000 then (match compF it.g bd tst elt (res caps q.l) it.xs q.H with
    | .ok ys H' => .ok (.ref H'.length) ⟨q.l, H' ++ [.list ys]⟩
    | _ => .stuck) else .stuck

theorem keepL_ok {α : Type} {l : Loc} {r : Res S α} {a : α} {H : Hp} (e : keepL l r = .ok a H) : r = .ok a ⟨l, H⟩ := by
  unfold keepL at e
  split at e
  · split at e
    · rename_i q h
      cases e
      obtain ⟨ql, qH⟩ := q
      dsimp only at h
      subst h
      rfl
    · cases e
  · cases e
theorem keepL_of {α : Type} {l : Loc} {a : α} {H : Hp} : keepL l (.ok a ⟨l, H⟩) = .ok a H := by unfold keepL; exact if_pos rfl

theorem compStep_ok {bd : V → Cm Unit} {tst : Cm Bool} {elt : Cm V} {lc : Loc} {v : V} {H H' : Hp} {o : Option V} (e : compStep bd tst elt lc v H = .ok o H') :
    ∃ u q1, bd v ⟨lc, H⟩ = .ok u q1 ∧ ((tst q1 = .ok false ⟨q1.l, H'⟩ ∧ o = none) ∨ ∃ H2 y, tst q1 = .ok true ⟨q1.l, H2⟩ ∧ elt ⟨q1.l, H2⟩ = .ok y ⟨q1.l, H'⟩ ∧ o = some y) := by
  unfold compStep at e
  split at e
  · rename_i u q1 h1
    split at e
    · rename_i H2 h2
      split at e
      · rename_i y H3 h3
        cases e
        exact ⟨u, q1, h1, .inr ⟨H2, y, keepL_ok h2, keepL_ok h3, rfl⟩⟩
      · cases e
    · rename_i H2 h2
      cases e
      exact ⟨u, q1, h1, .inl ⟨keepL_ok h2, rfl⟩⟩
    · cases e
  · cases e
theorem compF_ok {g : Hp → Prop} {bd : V → Cm Unit} {tst : Cm Bool} {elt : Cm V} {lc : Loc} {v : V} {r : List V} {H Hf : Hp} {ys : List V} (e : compF g bd tst elt lc (v :: r) H = .ok ys Hf) :
    ∃ o H' zs, compStep bd tst elt lc v H = .ok o H' ∧ g H' ∧ compF g bd tst elt lc r H' = .ok zs Hf ∧ ys = o.toList ++ zs := by
  unfold compF at e
  split at e
  · rename_i o H' h1
    split at e
    · rename_i hg
      split at e
      · rename_i zs H'' h2
        cases e
        exact ⟨o, H', zs, h1, hg, h2, rfl⟩
      · cases e
    · cases e
  · cases e

/-! the comprehension's own frame -/
def clFor (scope : Scope) (env : Env) : List (Str × Addr) := scope.names.foldl (fun cs p => if p.2 == .free then (p.1, (env.cells.lookup p.1).getD 0) :: cs else cs) []
def freeN (scope : Scope) : List Str := (scope.names.filter fun p => p.2 == .free).map (·.1)
def isCF : Option NameKind → Bool
  | some .cell => true
  | some .free => true
  | _ => false
theorem isCF_iff {k : Option NameKind} (h : isCF k = true) : k = some .cell ∨ k = some .free := by
  unfold isCF at h
  split at h
  · exact .inl rfl
  · exact .inr rfl
  · cases h

def compB (scope : Scope) (env : Env) (caps : List String) : Bool :=
  (scope.kind == .function) && (scope.names.all fun p => p.2 != .cell) && (scope.names.all fun p => p.2 != .local || scope.names.lookup p.1 == some .local) &&
  (scope.names.all fun p => p.2 != .free || (env.cells.lookup p.1).isSome) && decide (freeN scope).Nodup && ((freeN scope).all fun n => caps.any fun x => n == Str.ofString x) &&
  (caps.all fun x => (freeN scope).contains (Str.ofString x)) && (caps.all fun x => isCF ((relabel scope env).names.lookup (Str.ofString x))) && (caps.all fun x => isCF (env.kindOf (Str.ofString x)))

structure CompOk (env : Env) (scope : Scope) (cl : List (Str × Addr)) (caps : List String) : Prop where
  kind : scope.kind = .function
  cell : ∀ y ∈ scope.names, y.2 ≠ .cell
  names : ∀ x ∈ scope.names, x.2 = .local → scope.names.lookup x.1 = some .local
  at' : ∀ p ∈ cl, env.cells.lookup p.1 = some p.2
  nd : (cl.map (·.1)).Nodup
  all : ∀ p ∈ cl, ∃ x ∈ caps, p.1 = Str.ofString x
  cap : ∀ x ∈ caps, Str.ofString x ∈ cl.map (·.1)
  kc : ∀ x ∈ caps, (relabel scope env).names.lookup (Str.ofString x) = some .cell ∨ (relabel scope env).names.lookup (Str.ofString x) = some .free
  ke : ∀ x ∈ caps, env.kindOf (Str.ofString x) = some .cell ∨ env.kindOf (Str.ofString x) = some .free

theorem clFor_go (env : Env) : ∀ (l : List (Str × NameKind)) (acc : List (Str × Addr)),
    l.foldl (fun cs p => if p.2 == .free then (p.1, (env.cells.lookup p.1).getD 0) :: cs else cs) acc = ((l.filter fun p => p.2 == .free).map fun p => (p.1, (env.cells.lookup p.1).getD 0)).reverse ++ acc
  | [], acc => rfl
  | p :: r, acc => by
    rw [List.foldl_cons, clFor_go env r]
    cases h : p.2 == .free with
    | true => rw [List.filter_cons_of_pos (by exact h)]; simp
    | false => rw [List.filter_cons_of_neg (by rw [h]; simp)]; simp
theorem clFor_eq (scope : Scope) (env : Env) : clFor scope env = ((scope.names.filter fun p => p.2 == .free).map fun p => (p.1, (env.cells.lookup p.1).getD 0)).reverse := by
  unfold clFor; rw [clFor_go]; simp
theorem clFor_fst (scope : Scope) (env : Env) : (clFor scope env).map (·.1) = (freeN scope).reverse := by
  rw [clFor_eq, List.map_reverse, List.map_map]; rfl

theorem CompOk.of {env : Env} {scope : Scope} {caps : List String} (h : compB scope env caps = true) : CompOk env scope (clFor scope env) caps := by
  unfold compB at h
  simp only [Bool.and_eq_true] at h
  obtain ⟨⟨⟨⟨⟨⟨⟨⟨h1, h2⟩, h3⟩, h4⟩, h5⟩, h6⟩, h7⟩, h8⟩, h9⟩ := h
  rw [List.all_eq_true] at h2 h3 h4 h6 h7 h8 h9
  refine ⟨beq_iff_eq.mp h1, fun y hy => by simpa using h2 y hy, fun x hx e => ?_, fun p hp => ?_, ?_, fun p hp => ?_, fun x hx => ?_, fun x hx => isCF_iff (h8 x hx), fun x hx => isCF_iff (h9 x hx)⟩
  · have := h3 x hx
    rw [e] at this
    simpa using this
  · rw [clFor_eq, List.mem_reverse, List.mem_map] at hp
    obtain ⟨p', hp', rfl⟩ := hp
    obtain ⟨m1, m2⟩ := List.mem_filter.mp hp'
    have := h4 p' m1
    rw [show p'.2 = .free from beq_iff_eq.mp m2] at this
    have h' : (env.cells.lookup p'.1).isSome = true := by simpa using this
    obtain ⟨a, ha⟩ := Option.isSome_iff_exists.mp h'
    dsimp only
    rw [ha]; rfl
  · rw [clFor_fst]; exact List.pairwise_reverse.mpr ((of_decide_eq_true h5 : (freeN scope).Nodup).imp fun h => Ne.symm h)
  · have hm : p.1 ∈ (clFor scope env).map (·.1) := List.mem_map.mpr ⟨p, hp, rfl⟩
    rw [clFor_fst, List.mem_reverse] at hm
    obtain ⟨x, hx, e⟩ := List.any_eq_true.mp (h6 _ hm)
    exact ⟨x, hx, beq_iff_eq.mp e⟩
  · rw [clFor_fst, List.mem_reverse]
    simpa using h7 x hx

theorem nodup_fst {l : List (Str × Addr)} {x y : Str} {c : Addr} (hn : (l.map (·.2)).Nodup) (h1 : (x, c) ∈ l) (h2 : (y, c) ∈ l) : x = y := by
  induction l with
  | nil => cases h1
  | cons p r ih =>
    rw [List.map_cons, List.nodup_cons] at hn
    rcases List.mem_cons.mp h1 with e1 | h1 <;> rcases List.mem_cons.mp h2 with e2 | h2
    · rw [← e1] at e2; exact (congrArg Prod.fst e2).symm
    · exact absurd (List.mem_map.mpr ⟨_, h2, by rw [← e1]⟩) hn.1
    · exact absurd (List.mem_map.mpr ⟨_, h1, by rw [← e2]⟩) hn.1
    · exact ih hn.2 h1 h2
theorem nodup_snd_of {l : List (Str × Addr)} (hn : (l.map (·.1)).Nodup) (h : ∀ p ∈ l, ∀ p' ∈ l, p.2 = p'.2 → p.1 = p'.1) : (l.map (·.2)).Nodup := by
  induction l with
  | nil => exact List.nodup_nil
  | cons p r ih =>
    rw [List.map_cons, List.nodup_cons] at hn ⊢
    refine ⟨fun hm => ?_, ih hn.2 fun a ha b hb => h a (.tail _ ha) b (.tail _ hb)⟩
    obtain ⟨p', hp', e⟩ := List.mem_map.mp hm
    exact hn.1 (List.mem_map.mpr ⟨p', hp', h p' (.tail _ hp') p (.head _) e⟩)

section
variable {G : Cx} {hq : Bool} {k : Nat} {env : Env} {A : Around} {ι ι' ι0 : List Addr} {q q' : S} {s s' s0 : Shared} {H H' : Hp} {h : Heap} {scope : Scope} {cl : List (Str × Addr)} {caps : List String} {Cd : Addr}

theorem FrOk.weaken {l l' : Loc} {hv hl : Heap} (x : FrOk G env l ι hv hl) (h : ∀ y v, l' y = some v → l y = some v) : FrOk G env l' ι hv hl :=
  ⟨x.kind, x.glob, x.blt, let ⟨m, hn, hm⟩ := x.loc; ⟨m, hn, fun y v e e2 => hm y v (h y v e) e2⟩, fun y v e e2 => x.cel y v (h y v e) e2, x.cells, x.ndup, x.dis, x.fresh⟩
theorem Rel.weaken {l' : Loc} (R : Rel G A env ι q s) (h : ∀ y v, l' y = some v → q.l y = some v) : Rel G A env ι ⟨l', q.H⟩ s := ⟨R.st, R.fr.weaken h, R.fs, R.gens, R.os⟩
theorem res_some {l : Loc} {x : String} {v : V} (e : res caps l x = some v) : x ∈ caps ∧ l x = some v := by
  unfold res at e
  split at e
  · rename_i h; exact ⟨h, e⟩
  · cases e

theorem CompOk.mem (Z : CompOk env scope cl caps) {p : Str × Addr} (hp : p ∈ cl) : p ∈ env.cells := mem_of_lookup (Z.at' p hp)
theorem CompOk.own (Z : CompOk env scope cl caps) {a : Addr} (ha : a ∈ cl.map (·.2)) : a ∈ own env := by
  obtain ⟨p, hp, rfl⟩ := List.mem_map.mp ha
  exact List.mem_cons_of_mem _ (List.mem_map.mpr ⟨p, Z.mem hp, rfl⟩)
theorem CompOk.look (Z : CompOk env scope cl caps) {x : String} (hx : x ∈ caps) {a : Addr} (h : env.cells.lookup (Str.ofString x) = some a) : cl.lookup (Str.ofString x) = some a := by
  obtain ⟨p, hp, e⟩ := List.mem_map.mp (Z.cap x hx)
  have h1 := Z.at' p hp
  rw [e, h] at h1
  have : p = (Str.ofString x, a) := by obtain ⟨p1, p2⟩ := p; dsimp only at e h1; rw [e, Option.some.inj h1]
  exact lookup_of_mem_nodup Z.nd (this ▸ hp)

theorem AOk.comp (ha : AOk hq k A env) : AOk hq k A (compEnvC scope cl Cd env) := ⟨ha.toROk, ha.fr⟩

/-- into the comprehension -/
theorem Rel.comp (Z : CompOk env scope cl caps) (R : Rel G A env ι q s) {m : Str → Option Value} (hn : s.heap.Ns Cd m) (hC : Cd ∉ ι ∧ G.hB.get? Cd = none) :
    Rel G A (compEnvC scope cl Cd env) ι ⟨res caps q.l, q.H⟩ s where
  st := R.st
  fs := R.fs
  gens := R.gens
  os := R.os
  fr := {
    kind := Z.kind
    glob := R.fr.glob
    blt := R.fr.blt
    loc := ⟨m, hn, fun x v e e2 => by
      obtain ⟨hx, _⟩ := res_some e
      have e2' : (relabel scope env).names.lookup (Str.ofString x) = some .local := e2
      rcases Z.kc x hx with h1 | h1 <;> rw [h1] at e2' <;> cases e2'⟩
    cel := fun x v e _ => by
      obtain ⟨hx, e⟩ := res_some e
      obtain ⟨c, o, cv, h1, h2, h3, h4⟩ := R.fr.cel x v e (Z.ke x hx)
      exact ⟨c, o, cv, Z.look hx h1, h2, h3, h4⟩
    cells := fun p hp => R.fr.cells p (Z.mem hp)
    ndup := nodup_snd_of Z.nd fun p hp p' hp' e => nodup_fst (c := p.2) R.fr.ndup (Z.mem hp) (by rw [e]; exact Z.mem hp')
    dis := fun a ha => by
      rcases List.mem_cons.mp ha with rfl | ha
      · exact hC.1
      · exact R.fr.dis a (Z.own ha)
    fresh := fun a ha => by
      rcases List.mem_cons.mp ha with rfl | ha
      · exact hC.2
      · exact R.fr.fresh a (Z.own ha) }

/-- and out of it -/
theorem Post.comp (Z : CompOk env scope cl caps) {q0 qc : S} (R0 : Rel G A env ι0 q0 s0) (P0 : Post G A env ι0 s0 ι q s) (hC : s0.heap.get? Cd = none) (Rc : Rel G A (compEnvC scope cl Cd env) ι qc s)
    (P : Post G A (compEnvC scope cl Cd env) ι s ι' q' s') (hl : ∀ x ∈ caps, q'.l x = q.l x) : Post G A env ι0 s0 ι' ⟨q.l, q'.H⟩ s' := by
  have im : Imm s.heap s'.heap := Rc.imm P.kp
  have R := P0.rel
  obtain ⟨cO, cF, cB⟩ := R0.fresh3 hC
  have isCell : ∀ a ∈ env.cells.map (·.2), ∃ o ov, s.heap.get? a = some o ∧ o.data = .cell ov := fun a ha => by
    obtain ⟨p, hp, rfl⟩ := List.mem_map.mp ha; exact R.fr.cells p hp
  have notFr : ∀ a ∈ env.cells.map (·.2), a ∉ frs A := fun a ha hf => by
    obtain ⟨o, ov, e, d⟩ := isCell a ha
    obtain ⟨o', e', es, n, d'⟩ := frames_mut R.fs hf
    rw [e] at e'; cases e'; rw [d] at d'; cases d'
  have cellEx : ∀ a ∈ env.cells.map (·.2), a ∉ cl.map (·.2) → ∀ o, s.heap.get? a = some o → s'.heap.get? a = some o := fun a ha hn o e => by
    have hao : a ∈ own env := List.mem_cons_of_mem _ ha
    refine P.kp.ex a o e (fun hm => ?_) (notFr a ha)
    rcases List.mem_append.mp hm with h1 | h1
    · rcases List.mem_cons.mp h1 with h1 | h1
      · exact cO ((show a = Cd from h1) ▸ hao)
      · exact hn h1
    · exact R.fr.dis a hao h1
  refine ⟨P0.pre.trans P.pre, ⟨P.rel.st, ⟨R.fr.kind, R.fr.glob, R.fr.blt, ?_, ?_, ?_, R.fr.ndup, ?_, R.fr.fresh⟩, P.rel.fs, P.rel.gens, P.rel.os⟩, ?_, fun a ha => new_trans P0.new P0.kp.size P.new ha⟩
  · obtain ⟨m, ⟨o, es, ep, ho, hd, r⟩, hm⟩ := R.fr.loc
    obtain ⟨sl, hs⟩ := P.kp.up env.locals o ho fun hm => by
      rcases List.mem_append.mp hm with h1 | h1
      · rcases List.mem_cons.mp h1 with h1 | h1
        · exact cO ((show env.locals = Cd from h1) ▸ .head _)
        · have h1' : env.locals ∈ cl.map (·.2) := h1
          obtain ⟨p, hp, e⟩ := List.mem_map.mp h1'
          obtain ⟨o', ov, e', d'⟩ := isCell env.locals (List.mem_map.mpr ⟨p, Z.mem hp, e⟩)
          rw [ho] at e'; cases e'; rw [hd] at d'; cases d'
      · exact R.fr.dis _ (.head _) h1
    exact ⟨m, ⟨_, es, ep, hs, hd, r⟩, fun y v e e2 => let ⟨cv, a, b⟩ := hm y v e e2; ⟨cv, a, b.mono P.pre im⟩⟩
  · intro x v e e2
    obtain ⟨c, o, cv, h1, h2, h3, h4⟩ := R.fr.cel x v e e2
    have hmem := mem_of_lookup h1
    by_cases hc : c ∈ cl.map (·.2)
    · obtain ⟨p, hp, e3⟩ := List.mem_map.mp hc
      obtain ⟨y, hy, e4⟩ := Z.all p hp
      have e5 : p.1 = Str.ofString x := nodup_fst (c := c) R.fr.ndup (by have := Z.mem hp; rw [← e3]; exact this) hmem
      obtain rfl : y = x := ofString_inj (e4.symm.trans e5)
      obtain ⟨c', o', cv', k1, k2, k3, k4⟩ := P.rel.fr.cel y v ((hl y hy).trans e) (Z.kc y hy)
      exact ⟨c', o', cv', Z.at' _ (mem_of_lookup k1), k2, k3, k4⟩
    · exact ⟨c, o, cv, h1, cellEx c (List.mem_map.mpr ⟨_, hmem, rfl⟩) hc o h2, h3, h4.mono P.pre im⟩
  · intro p hp
    by_cases hc : p.2 ∈ cl.map (·.2)
    · obtain ⟨p', hp', e⟩ := List.mem_map.mp hc
      rw [← e]
      exact P.rel.fr.cells p' hp'
    · obtain ⟨o, ov, h1, h2⟩ := R.fr.cells p hp
      exact ⟨o, ov, cellEx p.2 (List.mem_map.mpr ⟨p, hp, rfl⟩) hc o h1, h2⟩
  · intro a ha hi
    rcases P.new a hi with h1 | h1
    · exact R.fr.dis a ha h1
    · obtain ⟨o, e, _⟩ := R.fr.mut (fun _ _ e => e) ha
      rw [h1] at e; cases e
  · have off : ∀ a o, s0.heap.get? a = some o → a ∉ own env ++ ι0 → a ∉ own (compEnvC scope cl Cd env) ++ ι := fun a o e hW hm => by
      rcases List.mem_append.mp hm with h1 | h1
      · rcases List.mem_cons.mp h1 with h1 | h1
        · rw [show a = Cd from h1, hC] at e; cases e
        · exact hW (List.mem_append_left _ (Z.own h1))
      · rcases P0.new a h1 with h2 | h2
        · exact hW (List.mem_append_right _ h2)
        · rw [h2] at e; cases e
    refine ⟨P0.kp.size.trans P.kp.size, fun a o e hW => ?_, fun a o e hW hf => P.kp.ex a o (P0.kp.ex a o e hW hf) (off a o e hW) hf⟩
    obtain ⟨sl, e1⟩ := P0.kp.up a o e hW
    obtain ⟨sl2, e2⟩ := P.kp.up a _ e1 (off a o e hW)
    exact ⟨sl2, e2⟩

/-- a list that was private joins the abstract heap -/
theorem Post.join {q0 : S} {D : Addr} {o : O} (R : Rel G A env ι q0 s) (P : Post G A env ι s ι' q' s') (hs : s.heap.get? D = none) (hD : D ∉ ι') (ho : ORel G (ι' ++ [D]) s'.heap D o) :
    Post G A env ι s (ι' ++ [D]) ⟨q'.l, q'.H ++ [o]⟩ s' := by
  have pre : ι' <+: ι' ++ [D] := List.prefix_append _ _
  have im := Imm.refl s'.heap
  obtain ⟨n2, n4, n3⟩ := R.fresh3 hs
  have R' := P.rel
  refine ⟨P.pre.trans pre, ⟨⟨R'.st.keep, by simp [R'.st.len], ?_, ?_, ?_⟩, ⟨R'.fr.kind, R'.fr.glob, R'.fr.blt, ?_, ?_, R'.fr.cells, R'.fr.ndup, ?_, R'.fr.fresh⟩, ?_, R'.gens, R'.os⟩, P.kp, ?_⟩
  · exact List.nodup_append.mpr ⟨R'.st.nodup, by simp, fun x hx y hy => by simp at hy; subst hy; exact fun e => hD (e ▸ hx)⟩
  · intro x hx
    rcases List.mem_append.mp hx with h | h
    · exact R'.st.fresh x h
    · simp at h; subst h; exact n3
  · intro i x y e1 e2
    dsimp only at e2
    by_cases hi : i < ι'.length
    · rw [List.getElem?_append_left hi] at e1
      rw [List.getElem?_append_left (R'.st.len ▸ hi)] at e2
      exact (R'.st.obj i x y e1 e2).stays pre fun _ _ e => e
    · have hi' : i = ι'.length := by
        have := (List.getElem?_eq_some_iff.mp e1).1
        simp at this; omega
      subst hi'
      simp at e1; subst e1
      rw [R'.st.len] at e2; simp at e2; subst e2
      exact ho
  · obtain ⟨m, hn, hm⟩ := R'.fr.loc
    exact ⟨m, hn, fun y v e e2 => let ⟨cv, a, b⟩ := hm y v e e2; ⟨cv, a, b.mono pre im⟩⟩
  · exact fun y v e e2 => let ⟨c, o, cv, a, b, d, f⟩ := R'.fr.cel y v e e2; ⟨c, o, cv, a, b, d, f.mono pre im⟩
  · intro x hx hm
    rcases List.mem_append.mp hm with h | h
    · exact R'.fr.dis x hx h
    · simp at h; subst h; exact n2 hx
  · intro env' he
    obtain ⟨b1, L, o', b2, b3, b4, b5, b6⟩ := R'.fs env' he
    refine ⟨b1, L, o', b2, b3, b4, fun hm => ?_, b6⟩
    rcases List.mem_append.mp hm with h | h
    · exact b5 h
    · simp at h; subst h; exact n4 (List.mem_filterMap.mpr ⟨env', he, b2⟩)
  · intro x hx
    rcases List.mem_append.mp hx with h | h
    · exact P.new x h
    · simp at h; subst h; exact .inr hs
end
end Mine

set_option Elab.async false
set_option linter.unusedVariables false
namespace Mine
open PySem PySem.W PyProof.Rows

/-- the tests of a clause -/
abbrev Tss (G : Cx) (hq : Bool) (k : Nat) (env : Env) (ifs : List Expr) (m : Cm Bool) : Prop :=
  Sem.Is G hq k env (fun A => wpT G A (forIn ifs true fun c r => if r = true then do let ok ← isTrue c env (eval c env); pure (ForInStep.yield ok) else pure (ForInStep.yield r))) m (fun _ _ a b => a = b)
def BdOk (caps : List String) (bd : V → Cm Unit) : Prop := ∀ v q u q', bd v q = .ok u q' → ∀ x ∈ caps, q'.l x = q.l x

section
variable {G : Cx} {hq : Bool} {k : Nat} {env : Env} {A : Around} {ι ι' ι0 : List Addr} {q q' : S} {s s' s0 : Shared} {H H' : Hp} {h : Heap} {scope : Scope} {cl : List (Str × Addr)} {caps : List String} {Cd : Addr}

theorem TS_one {c : Expr} {m : Cm Bool} (h : Tr G hq k env c m) : Tss G hq k env [c] m := fun A ι q s ha R => (h A ι q s ha R).imp fun Q E x => wpAny_tests_one x

theorem bd_name {x : String} (hx : x ∉ caps) : BdOk caps (setV x) := fun v q u q' e y hy => by
  cases e
  have hne : y ≠ x := fun e => hx (e ▸ hy)
  show upd q.l x v y = q.l y
  exact upd_ne _ _ hne
theorem bd_pair {x y : String} (hx : x ∉ caps) (hy : y ∉ caps) : BdOk caps (set2V x y) := fun v q u q' e z hz => by
  unfold set2V at e
  split at e
  · cases e
    have h1 : z ≠ y := fun e => hy (e ▸ hz)
    have h2 : z ≠ x := fun e => hx (e ▸ hz)
    show upd (upd q.l x _) y _ z = q.l z
    rw [upd_ne _ _ h1, upd_ne _ _ h2]
  · cases e

theorem compLoop_any {elt target iter : Expr} {ifs : List Expr} {pos : Pos} {it acc : Value} {cenv : Env} {R : Result → Shared → Prop} (I : Nat → Shared → Prop)
    (turn : ∀ n s, I n s → wpAny G.M A (pyNext it) (fun r s₁ => match r with
      | none => R (.ok .next) s₁
      | some v => wpAny G.M A (letOwnedTupleGo target it v) (fun _ s₂ => wpAny G.M A (assign target cenv v) (fun _ s₂ =>
          wpAny G.M A (forIn ifs true fun c r => if r = true then do let ok ← isTrue c cenv (eval c cenv); pure (ForInStep.yield ok) else pure (ForInStep.yield r)) (fun ok s₃ =>
            if ok = true then wpAny G.M A (eval elt cenv) (fun x s₄ =>
              wpAny G.M A (call (.builtin "list.append") [acc, x]) (fun _ s₅ => ∃ m, m < n ∧ I m s₅) (notedBy G.M A cenv fun e s' => R (.error e) s') s₄) (notedBy G.M A cenv fun e s' => R (.error e) s') s₃
            else ∃ m, m < n ∧ I m s₃) (notedBy G.M A cenv fun e s' => R (.error e) s') s₂) (notedBy G.M A cenv fun e s' => R (.error e) s') s₂) (notedBy G.M A cenv fun e s' => R (.error e) s') s₁)
        (notedBy G.M A cenv fun e s' => R (.error e) s') s)
    (n : Nat) (h : I n s) : codeAny G.M A (.compLoop (.ListComp elt [⟨target, iter, ifs, 0⟩] scope pos) 0 it acc cenv) R s := by
  refine codeAny_loop rfl I (fun n s hI => ?_) n h
  show wpAny _ A ((compTurn (.ListComp elt [⟨target, iter, ifs, 0⟩] scope pos) 0 it acc cenv).onRaise (fun x => do noteFrame x cenv; theTreesLotGoes x)) _ _ s
  refine wpAny_noted ?_
  rw [compTurn_list]
  refine wpAny_bind (wpAny_standAt (wpAny_bind (wpAny_mono (turn n s hI) (fun r s₁ h₁ => ?_) fun _ _ h' => h')))
  cases r with
  | none => exact wpAny_pure h₁
  | some v =>
    refine wpAny_bind (wpAny_mono h₁ (fun _ s₂ h₂ => wpAny_bind (wpAny_mono h₂ (fun _ s₃ h₃ => wpAny_bind (wpAny_mono h₃ (fun ok s₄ h₄ => ?_) fun _ _ h' => h')) fun _ _ h' => h')) fun _ _ h' => h')
    cases ok with
    | false => exact wpAny_pure ⟨rfl, h₄⟩
    | true =>
      exact wpAny_bind (wpAny_bind (wpAny_mono h₄ (fun x s₅ h₅ => wpAny_bind (wpAny_mono h₅ (fun _ s₆ h₆ => wpAny_pure (wpAny_pure ⟨rfl, h₆⟩)) fun _ _ h' => h')) fun _ _ h' => h'))

theorem plain_mut {h : Heap} {a : Addr} {xs : Array Value} (x : h.PlainList a xs) : ∃ o, h.get? a = some o ∧ Mut o := let ⟨n, e⟩ := x; ⟨_, e, .inl ⟨"list", rfl, by decide⟩⟩

theorem P_comp (Z : CompOk env scope cl caps) {elt target iter : Expr} {ifs : List Expr} {pos : Pos} {bd : V → Cm Unit} {tst : Cm Bool} {melt : Cm V} {I : Addr} {priv : List Addr} {ι1 : List Addr} {it : It} {St : Nat → Heap → Prop} {q1 : S} {s1 : Shared}
    (ha : AOk hq k A env) (R : Rel G A env ι q s) (hb : ∀ L, AsgOk G hq k (compEnvC scope cl L env) target bd) (hbd : BdOk caps bd) (ht : ∀ L, Tss G hq k (compEnvC scope cl L env) ifs tst)
    (he : ∀ L, Ev G hq k (compEnvC scope cl L env) elt melt) (P1 : Post G A env ι s ι1 q1 s1) (hI : Itr G A target I priv ι1 it St) (h0 : St 0 s1.heap) (hp : ∀ b ∈ priv, s.heap.get? b = none ∧ b ∉ ι1) (hg : it.g q1.H)
    (hlen : it.xs.length ≤ 1000000) {ys : List V} {Hf : Hp} (hc : compF it.g bd tst melt (res caps q1.l) it.xs q1.H = .ok ys Hf) {RR : Value → Addr → Result → Shared → Prop} {E : Value → Shared → Prop}
    (hRR : ∀ ι' D Cd m' s', Post G A env ι s (ι' ++ [D]) ⟨q1.l, Hf ++ [.list ys]⟩ s' → ι'.length = Hf.length → s.heap.get? Cd = none → Cd ∉ ι' ++ [D] → s'.heap.Ns Cd m' → RR (.ref D) Cd (.ok .next) s') :
    wpAny G.M A (newList []) (fun acc s₃ => wpAny G.M A (newFunctionEnv scope env.globals cl [] env.qual none .none (some env)) (fun cenv s₄ =>
      codeAny G.M A (.compStart (.ListComp elt [⟨target, iter, ifs, 0⟩] scope pos) 0 (.ref I) acc { cenv with scope := relabel scope env }) (RR acc cenv.locals) s₄) E s₃) E s1 := by
  refine wpAny_newObj_type (wpAny_newFunctionEnv Z.cell (by intro y hy; simp at hy) (fun h₁ hns₁ hsb₁ => ?_) Z.kind)
  dsimp only at hns₁ hsb₁ ⊢
  generalize hH2 : s1.heap.push { cls := .type "list", dict := none, data := .seq ([] : List Value).toArray } = H2 at hns₁ hsb₁ ⊢
  generalize hDe : s1.heap.objs.size = D at hns₁ hsb₁ ⊢
  have hC : H2.objs.size = D + 1 := by rw [← hH2, Heap.size_push, hDe]
  generalize hCe : H2.objs.size = Cd at hns₁ hsb₁ hC ⊢
  have hDC : D ≠ Cd := by omega
  have nD1 : s1.heap.get? D = none := Heap.get?_none_of_le (by omega)
  have nC1 : s1.heap.get? Cd = none := Heap.get?_none_of_le (by omega)
  have up0 : ∀ a, s1.heap.get? a = none → s.heap.get? a = none := fun a ha => by
    cases e : s.heap.get? a with
    | none => rfl
    | some o => obtain ⟨o', e'⟩ := P1.kp.size a o e; rw [ha] at e'; cases e'
  have nD := up0 D nD1
  have nC := up0 Cd nC1
  obtain ⟨dO, dF, dB⟩ := R.fresh3 nD
  obtain ⟨cO, cF, cB⟩ := R.fresh3 nC
  have old : s1.heap.StaysIn h₁ := fun b o e => hsb₁.extBut b o (Nat.ne_of_lt (Nat.lt_of_lt_of_le (Heap.lt_size e) (by rw [hDe, hC]; exact Nat.le_succ _))) (Heap.get?_push_of_some _ (hH2 ▸ Heap.get?_push_of_some _ e))
  have hacc : h₁.PlainList D #[] := ⟨_, hsb₁.extBut _ _ hDC (Heap.get?_push_of_some _ (by rw [← hH2, ← hDe]; exact Heap.get?_push_size _ rfl))⟩
  have pNe : ∀ b ∈ priv, b ≠ D ∧ b ≠ Cd := fun b hb => by
    obtain ⟨o, e, _⟩ := hI.mu _ _ h0 b hb
    have lt := Heap.lt_size e
    rw [hDe] at lt
    exact ⟨Nat.ne_of_lt lt, Nat.ne_of_lt (by rw [hC]; exact Nat.lt_succ_of_lt lt)⟩
  have pFr : ∀ b ∈ priv, b ∉ own env ∧ b ∉ frs A ∧ G.hB.get? b = none := fun b hb => R.fresh3 (hp b hb).1
  have pOwn : ∀ b ∈ priv, b ∉ own (compEnvC scope cl Cd env) := fun b hb hm => by
    rcases List.mem_cons.mp hm with h1 | h1
    · exact (pNe b hb).2 h1
    · exact (pFr b hb).1 (Z.own h1)
  have dOwn : D ∉ own (compEnvC scope cl Cd env) := fun hm => by
    rcases List.mem_cons.mp hm with h1 | h1
    · exact hDC h1
    · exact dO (Z.own h1)
  have haC : AOk hq k A (compEnvC scope cl Cd env) := ha.comp
  have loop : ∀ s₂ : Shared, s₂ = { s1 with heap := h₁, toks := s1.toks + ([] : List (Str × Value)).length } →
      codeAny G.M A (.compLoop (.ListComp elt [⟨target, iter, ifs, 0⟩] scope pos) 0 (.ref I) (.ref D) (compEnvC scope cl Cd env)) (RR (.ref D) Cd) s₂ := by
    rintro s₂ rfl
    have P2 : Post G A env ι s ι1 q1 { s1 with heap := h₁, toks := s1.toks + ([] : List (Str × Value)).length } := P1.trans (Post.stays P1.rel old)
    have cI1 : Cd ∉ ι1 := (P1.rel.fresh_ne nC1).1
    have dI1 : D ∉ ι1 := (P1.rel.fresh_ne nD1).1
    refine compLoop_any (fun n s' => ∃ i ι' H' ya yc, i ≤ it.xs.length ∧ n = it.xs.length + 1 - i ∧ ι1 <+: ι' ∧ Post G A env ι s ι' ⟨q1.l, H'⟩ s' ∧ Rel G A (compEnvC scope cl Cd env) ι' ⟨res caps q1.l, H'⟩ s' ∧ St i s'.heap ∧ it.g H' ∧
        (∀ b ∈ priv, b ∉ ι') ∧ D ∉ ι' ∧ Cd ∉ ι' ∧ s'.heap.PlainList D (List.toArray yc) ∧ VRels G ι' s'.heap ya yc ∧ ya.length ≤ i ∧ ∃ zs, compF it.g bd tst melt (res caps q1.l) (it.xs.drop i) H' = .ok zs Hf ∧ ya ++ zs = ys) ?_ (it.xs.length + 1)
      ⟨0, ι1, q1.H, [], [], Nat.zero_le _, rfl, List.prefix_refl _, P2, Rel.comp Z P2.rel hns₁ ⟨cI1, cB⟩, hI.frame _ _ _ h0 (fun b _ o e => old b o e), hg, fun b hb => (hp b hb).2, dI1, cI1, hacc, vNil, Nat.le_refl _, ys, by rw [List.drop_zero]; exact hc, rfl⟩
    rintro n s' ⟨i, ι', H', ya, yc, hi, rfl, hpre, P, Rc, hst, hg', hpi, hDi, hCi, hpl, hvr, hyl, zs, hcf, hys⟩
    have hp' : ∀ b ∈ priv, s.heap.get? b = none ∧ b ∉ ι' := fun b hb => ⟨(hp b hb).1, hpi b hb⟩
    have hcp : ∀ b ∈ priv, b ∉ ι' ∧ b ∉ own (compEnvC scope cl Cd env) ∧ b ∉ frs A ∧ G.hB.get? b = none := fun b hb => ⟨hpi b hb, pOwn b hb, (pFr b hb).2.1, (pFr b hb).2.2⟩
    rcases Nat.lt_or_ge i it.xs.length with hlt | hge
    · obtain ⟨x, hx⟩ : ∃ x, it.xs[i]? = some x := ⟨_, List.getElem?_eq_getElem hlt⟩
      have hdrop : it.xs.drop i = x :: it.xs.drop (i + 1) := by
        rw [List.drop_eq_getElem_cons hlt]; congr 1; rw [List.getElem?_eq_getElem hlt] at hx; exact Option.some.inj hx
      rw [hdrop] at hcf
      obtain ⟨o, H2', zs', hstep, hg2, hrest, hz⟩ := compF_ok hcf
      obtain ⟨u, qa, hbx, hcase⟩ := compStep_ok hstep
      refine wpAny_mono (hI.item i x s' ι' H' _ _ hx hpre hpi P.rel.st hg' hst fun v h' tk hk hv hst' => ?_) (fun r s₁ y => by
        cases r with
        | none => exact y.elim
        | some v => exact y) fun _ _ y => y
      obtain ⟨Pa, im⟩ := Post.off (tk := tk) R P hp' (hI.mu _ _ hst) hk
      obtain ⟨Rc2, _⟩ := Rc.off (tk := tk) hcp (hI.mu _ _ hst) hk
      have hpl2 : h'.PlainList D yc.toArray := hpl.at fun o e => hk D o (fun hm => (pNe D hm).1 rfl) e
      have hvr2 := hvr.mono (List.prefix_refl _) im
      have hA := hb Cd A ι' ⟨res caps q1.l, H'⟩ _ x v haC Rc2 hv
      rw [hbx] at hA
      refine hA _ _ fun ι2 _ s3 Pb _ => ?_
      have hT := ht Cd A ι2 qa s3 haC Pb.rel
      have hcaps : ∀ y ∈ caps, qa.l y = q1.l y := fun y hy => (hbd _ _ _ _ hbx y hy).trans (if_pos hy)
      /- what holds behind the element -/
      have next : ∀ {ι4 : List Addr} {H4 : Hp} {s4 : Shared}, Post G A (compEnvC scope cl Cd env) ι' { s' with heap := h', toks := tk } ι4 ⟨qa.l, H4⟩ s4 →
          Post G A env ι s ι4 ⟨q1.l, H4⟩ s4 ∧ Rel G A (compEnvC scope cl Cd env) ι4 ⟨res caps q1.l, H4⟩ s4 ∧ St (i + 1) s4.heap ∧ (∀ b ∈ priv, b ∉ ι4) ∧ D ∉ ι4 ∧ Cd ∉ ι4 ∧ s4.heap.PlainList D yc.toArray ∧ VRels G ι4 s4.heap ya yc := fun {ι4 H4 s4} Pc => by
        have there : ∀ b o, h'.get? b = some o → b ∉ ι' → b ∉ ι4 := fun b o e hn hm => by
          rcases Pc.new b hm with h1 | h1
          · exact hn h1
          · have h1' : h'.get? b = none := h1
            rw [e] at h1'; cases h1'
        refine ⟨Post.comp Z R Pa nC Rc2 Pc hcaps, Pc.rel.weaken fun y v e => ?_, hI.frame _ _ _ hst' fun b hb o e => ?_, fun b hb => ?_, ?_, ?_, ?_, hvr2.mono Pc.pre (Rc2.imm Pc.kp)⟩
        · obtain ⟨hy, e⟩ := res_some e
          exact (hcaps y hy).trans e
        · exact Pc.kp.ex b o e (fun hm => (List.mem_append.mp hm).elim (pOwn b hb) (hpi b hb)) (pFr b hb).2.1
        · obtain ⟨o, e, _⟩ := hI.mu _ _ hst' b hb
          exact there b o e (hpi b hb)
        · obtain ⟨n, e⟩ := hpl2
          exact there D _ e hDi
        · obtain ⟨m, ⟨o, es, ep, e, _⟩, _⟩ := Rc2.fr.loc
          exact there Cd o e hCi
        · exact hpl2.at fun o e => Pc.kp.ex D o e (fun hm => (List.mem_append.mp hm).elim dOwn hDi) dF
      rcases hcase with ⟨htst, rfl⟩ | ⟨H3, y, htst, helt, rfl⟩
      · rw [htst] at hT
        refine hT _ _ fun ι3 bb s4 Pt hbb => ?_
        cases hbb
        simp only [Bool.false_eq_true, if_false]
        obtain ⟨a1, a2, a3, a4, a5, a6, a7, a8⟩ := next (Pb.trans Pt)
        exact ⟨it.xs.length + 1 - (i + 1), by omega, i + 1, ι3, H2', ya, yc, hlt, rfl, hpre.trans ((Pb.trans Pt).pre), a1, a2, a3, hg2, a4, a5, a6, a7, a8, by omega, zs', hrest, by rw [← hys, hz]; rfl⟩
      · rw [htst] at hT
        refine hT _ _ fun ι3 bb s4 Pt hbb => ?_
        cases hbb
        simp only [if_true]
        have hE := he Cd A ι3 ⟨qa.l, H3⟩ s4 haC Pt.rel
        rw [helt] at hE
        refine hE _ _ fun ι4 cy s5 Pe hvy => ?_
        obtain ⟨a1, a2, a3, a4, a5, a6, a7, a8⟩ := next ((Pb.trans Pt).trans Pe)
        have hyc : yc.length = ya.length := a8.length
        refine wpAny_list_append_plain a7 (fun h5 hpl5 hs5 => ?_) (by rw [List.size_toArray, hyc, sizeLine_eq]; omega)
        have hmD : ∀ b ∈ [D], ∃ o, s5.heap.get? b = some o ∧ Mut o := fun b hb => by simp at hb; subst hb; exact plain_mut a7
        have hk5 : ∀ b o, b ∉ [D] → s5.heap.get? b = some o → h5.get? b = some o := fun b o hb e => hs5.extBut b o (fun q => hb (by simp [q])) e
        obtain ⟨P6, im6⟩ := Post.off (tk := s5.toks) R a1 (priv := [D]) (fun b hb => by simp at hb; subst hb; exact ⟨nD, a5⟩) hmD hk5
        obtain ⟨R6, _⟩ := a2.off (tk := s5.toks) (priv := [D]) (fun b hb => by simp at hb; subst hb; exact ⟨a5, dOwn, dF, dB⟩) hmD hk5
        have hpush : yc.toArray.push cy = (yc ++ [cy]).toArray := by simp
        rw [hpush] at hpl5
        refine ⟨it.xs.length + 1 - (i + 1), by omega, i + 1, ι4, H2', ya ++ [y], yc ++ [cy], hlt, rfl, hpre.trans (((Pb.trans Pt).trans Pe).pre), P6, R6, hI.frame _ _ _ a3 fun b hb o e => hs5.extBut b o (pNe b hb).1 e, hg2, a4, a5, a6, hpl5,
          (a8.append (vCons hvy vNil)).mono (List.prefix_refl _) im6, by simp; omega, zs', hrest, by rw [← hys, hz]; simp⟩
    · have hi' : i = it.xs.length := by omega
      subst hi'
      rw [List.drop_length] at hcf
      cases hcf
      rw [List.append_nil] at hys
      subst hys
      refine wpAny_mono (hI.done s' ι' Hf (fun s₁ => RR (.ref D) Cd (.ok .next) s₁) _ hpre hpi P.rel.st hg' hst fun h' tk hk => ?_) (fun r s₁ y => ?_) fun _ _ y => y
      · obtain ⟨P2, im⟩ := Post.off (tk := tk) R P hp' (hI.mu _ _ hst) hk
        obtain ⟨Rc2, _⟩ := Rc.off (tk := tk) hcp (hI.mu _ _ hst) hk
        have hpl2 : h'.PlainList D yc.toArray := hpl.at fun o e => hk D o (fun hm => (pNe D hm).1 rfl) e
        obtain ⟨m, hn, _⟩ := Rc2.fr.loc
        exact hRR ι' D Cd m _ (Post.join R P2 nD hDi ⟨yc, hpl2, hvr.mono (List.prefix_append _ _) im⟩) P.rel.st.len nC (fun hm => (List.mem_append.mp hm).elim hCi fun h1 => by simp at h1; exact hDC h1.symm) hn
      · cases r with
        | none => exact y
        | some v => exact y.elim
  have hst₁ : St 0 h₁ := hI.frame _ _ _ h0 fun b _ o e => old b o e
  exact codeAny_compStart_list (loop _ rfl) (hI.self 0 _ _ _ hst₁ (loop _ rfl))

theorem compM_ok {mi : Cm It} {bd : V → Cm Unit} {tst : Cm Bool} {melt : Cm V} {it : It} {q1 : S} (e : mi q = .ok it q1) :
    compM caps mi bd tst melt q = .stuck ∨ ∃ ys Hf, it.xs.length ≤ 1000000 ∧ compF it.g bd tst melt (res caps q1.l) it.xs q1.H = .ok ys Hf ∧ compM caps mi bd tst melt q = .ok (.ref Hf.length) ⟨q1.l, Hf ++ [.list ys]⟩ := by
  unfold compM
  rw [bnd_ok e]
  split
  · rename_i hl
    split
    · rename_i ys Hf h; exact .inr ⟨ys, Hf, hl, h, rfl⟩
    · exact .inl rfl
  · exact .inl rfl

theorem ns_mut {h : Heap} {a : Addr} {m : Str → Option Value} (x : h.Ns a m) : ∃ o, h.get? a = some o ∧ Mut o := let ⟨o, es, ep, e, d, _⟩ := x; ⟨o, e, .inr (.inl ⟨es, ep, d⟩)⟩

theorem E_comp {elt target iter : Expr} {ifs : List Expr} {pos : Pos} (caps : List String) {mi : Cm It} {bd : V → Cm Unit} {tst : Cm Bool} {melt : Cm V} (hB : compB scope env caps = true) (hclos : closureFor scope env = pure (clFor scope env))
    (hi : EvI G hq k env target iter mi) (hb : ∀ L, AsgOk G hq k (compEnvC scope (clFor scope env) L env) target bd) (hbd : BdOk caps bd) (ht : ∀ L, Tss G hq k (compEnvC scope (clFor scope env) L env) ifs tst)
    (he : ∀ L, Ev G hq k (compEnvC scope (clFor scope env) L env) elt melt) (hs : ∀ x, foldedSetIterable iter env x = pure x) :
    Ev G hq k env (.ListComp elt [⟨target, iter, ifs, 0⟩] scope pos) (compM caps mi bd tst melt) := by
  intro A ι q s ha R
  have Z := CompOk.of hB
  refine Sat.of fun Q E hQ => ?_
  rw [eval_ListComp]
  refine wpAny_comprehension_free (use := none) rfl hs hclos Z.kind Z.names ?_
  have hi' := hi A ι q s ha R
  cases hmi : mi q with
  | stuck => unfold compM at hQ; rw [bnd_stuck hmi] at hQ; exact hQ.elim
  | exc c q1 => unfold compM at hQ; rw [bnd_exc hmi] at hQ; rw [hmi] at hi'; exact hi' _ _ hQ
  | ok it q1 =>
    rw [hmi] at hi'
    rcases compM_ok (caps := caps) (bd := bd) (tst := tst) (melt := melt) hmi with hst | ⟨ys, Hf, hl, hc, hok⟩
    · rw [hst] at hQ; exact hQ.elim
    · rw [hok] at hQ
      refine hi' _ _ fun ι1 cv s1 P1 hr => ?_
      obtain ⟨⟨I, priv, St, rfl, h0, hp, _, hI⟩, hg⟩ := hr
      refine P_comp (RR := fun acc C => compPost G.M A E none Q acc C) Z ha R hb hbd ht he P1 hI h0 hp (hg q1 rfl) hl hc fun ι' D Cd m' s' P hlen nC hCi hn => ?_
      refine ⟨m', hn, fun h' hs' => ?_⟩
      obtain ⟨P2, _⟩ := Post.off (tk := s'.toks) R P (priv := [Cd]) (fun b hb => by simp at hb; subst hb; exact ⟨nC, hCi⟩) (fun b hb => by simp at hb; subst hb; exact ns_mut hn) fun b o hb e => hs'.extBut b o (fun q => hb (by simp [q])) e
      exact hQ _ (.ref D) _ P2 ⟨D, by rw [← hlen]; simp, rfl⟩

/-- x = [ .. ], the name stored ahead of the comprehension's end -/
theorem X_setcomp {elt target iter : Expr} {ifs : List Expr} {pos py spos : Pos} {y : String} (caps : List String) {mi : Cm It} {bd : V → Cm Unit} {tst : Cm Bool} {melt : Cm V} (hB : compB scope env caps = true)
    (hclos : closureFor scope env = pure (clFor scope env))
    (hi : EvI G hq k env target iter mi) (hb : ∀ L, AsgOk G hq k (compEnvC scope (clFor scope env) L env) target bd) (hbd : BdOk caps bd) (ht : ∀ L, Tss G hq k (compEnvC scope (clFor scope env) L env) ifs tst)
    (he : ∀ L, Ev G hq k (compEnvC scope (clFor scope env) L env) elt melt) (hs : ∀ x, foldedSetIterable iter env x = pure x)
    (hsw : swapsWith (.ListComp elt [⟨target, iter, ifs, 0⟩] scope pos) (some (.Name (Str.ofString y) py)) spos.line env = pure true) (hy : env.kindOf (Str.ofString y) = some .local) :
    Ex G hq k env (.Assign [.Name (Str.ofString y) py] (.ListComp elt [⟨target, iter, ifs, 0⟩] scope pos) spos) ((compM caps mi bd tst melt).bnd fun v => (setV y v).bnd fun _ => .pur .next) := by
  intro A ι q s ha R
  have Z := CompOk.of hB
  refine Sat.of fun Q E hQ => ?_
  rw [exec_Assign_Name_used _ _ _ _ hsw]
  refine wpAny_bind (wpAny_standAt (wpAny_bind ?_))
  show wpAny _ A (do let _ ← comprehension (.ListComp elt [⟨target, iter, ifs, 0⟩] scope pos) scope env _ (newList []) false (eval iter env) (some (assign (.Name (Str.ofString y) py) env))) _ _ s
  refine wpAny_bind (wpAny_mono (wpAny_comprehension_free (use := some (assign (.Name (Str.ofString y) py) env)) (Q := fun _ s' => Q .next s') rfl hs hclos Z.kind Z.names ?_) (fun _ s' hq => wpAny_pure (wpAny_pure hq)) fun _ _ e => e)
  have hi' := hi A ι q s ha R
  cases hmi : mi q with
  | stuck => rw [bnd_stuck (show compM caps mi bd tst melt q = .stuck by unfold compM; exact bnd_stuck hmi)] at hQ; exact hQ.elim
  | exc c q1 => rw [bnd_exc (show compM caps mi bd tst melt q = .exc c q1 by unfold compM; exact bnd_exc hmi)] at hQ; rw [hmi] at hi'; exact hi' _ _ hQ
  | ok it q1 =>
    rw [hmi] at hi'
    rcases compM_ok (caps := caps) (bd := bd) (tst := tst) (melt := melt) hmi with hst | ⟨ys, Hf, hl, hc, hok⟩
    · rw [bnd_stuck hst] at hQ; exact hQ.elim
    · rw [bnd_ok hok] at hQ
      refine hi' _ _ fun ι1 cv s1 P1 hr => ?_
      obtain ⟨⟨I, priv, St, rfl, h0, hp, _, hI⟩, hg⟩ := hr
      refine P_comp (RR := fun acc C => compPost G.M A E (some (assign (.Name (Str.ofString y) py) env)) (fun _ s' => Q .next s') acc C) Z ha R hb hbd ht he P1 hI h0 hp (hg q1 rfl) hl hc fun ι' D Cd m' s' P hlen nC hCi hn => ?_
      show wpAny _ A (assign (.Name (Str.ofString y) py) env (.ref D)) _ _ _
      refine wpAny_assign_Name (P_store (v := .ref Hf.length) (.inl hy) P.rel ⟨D, by rw [← hlen]; simp, rfl⟩ _ _ fun ι2 u s2 P2 _ => ?_)
      have P3 := P.trans P2
      have cO := R.fresh3 nC
      obtain ⟨oC, es, ep, eC, dC, r⟩ := hn
      have eC2 : s2.heap.get? Cd = some oC := P2.kp.ex Cd oC eC (fun hm => (List.mem_append.mp hm).elim cO.1 hCi) cO.2.1
      have hC2 : Cd ∉ ι2 := fun hm => by
        rcases P2.new Cd hm with h1 | h1
        · exact hCi h1
        · rw [eC] at h1; cases h1
      refine ⟨m', ⟨oC, es, ep, eC2, dC, r⟩, fun h' hs' => ?_⟩
      obtain ⟨P4, _⟩ := Post.off (tk := s2.toks) R P3 (priv := [Cd]) (fun b hb => by simp at hb; subst hb; exact ⟨nC, hC2⟩) (fun b hb => by simp at hb; subst hb; exact ⟨oC, eC2, .inr (.inl ⟨es, ep, dC⟩)⟩)
        fun b o hb e => hs'.extBut b o (fun q => hb (by simp [q])) e
      exact hQ _ .next _ P4 rfl

/-! ### enumerate -/
def enumL (i : Int) : List V → List V
  | [] => []
  | x :: r => .tup [.int i, x] :: enumL (i + 1) r
theorem enumL_length : ∀ (xs : List V) (i : Int), (enumL i xs).length = xs.length
  | [], _ => rfl
  | x :: r, i => by rw [enumL, List.length_cons, enumL_length r, List.length_cons]
theorem enumL_get : ∀ (xs : List V) (a : Int) (i : Nat) (y : V), (enumL a xs)[i]? = some y → ∃ x, xs[i]? = some x ∧ y = .tup [.int (a + i), x]
  | [], a, i, y, e => by simp [enumL] at e
  | x :: r, a, 0, y, e => by simp [enumL] at e; exact ⟨x, rfl, by rw [← e]; simp⟩
  | x :: r, a, i + 1, y, e => by
    simp [enumL] at e
    obtain ⟨z, h1, h2⟩ := enumL_get r (a + 1) i y e
    exact ⟨z, by simpa using h1, by rw [h2]; congr 3; push_cast; omega⟩
def enumV (sn : List Int) : List V → Cm It
  | [o] => fun q => (match itemsOf sn o q.H with
    | some xs => .ok ⟨enumL 0 xs, fun H => itemsOf sn o H = some xs⟩ q
    | none => .stuck)
  | _ => .stk

theorem itr_enum (C : CxOk G) (hh : A.handled = none) {es : List Expr} {kk : Nat} {p : Pos} {e it l : Addr} {v : V} {xs : List V} (hv : ∀ ι', ι <+: ι' → ∀ h, VRel G ι' h v (.ref l)) (hei : e ≠ it) (hle : l ≠ e) (hli : l ≠ it) :
    Itr G A (.Tuple es kk p) e [e, it] ι ⟨enumL 0 xs, fun H => itemsOf G.sn v H = some xs⟩ (fun i h => (∃ old, IsEnum h e it (i : Nat) old) ∧ h.IsListIter it l i) where
  mu := fun i h st b hb => by
    obtain ⟨⟨old, he⟩, hit⟩ := st
    simp at hb
    rcases hb with rfl | rfl
    · exact ⟨_, he, .inl ⟨_, rfl, by decide⟩⟩
    · exact listIter_mut hit
  frame := fun i h h' st hk => ⟨let ⟨old, he⟩ := st.1; ⟨old, hk e (by simp) _ he⟩, st.2.at fun o x => hk it (by simp) o x⟩
  item := fun i x s ι' H Q E hx hpre hpi R hg st hQ => by
    obtain ⟨⟨old, he⟩, hit⟩ := st
    obtain ⟨xi, hxi, rfl⟩ := enumL_get _ _ _ _ hx
    obtain ⟨a, vs, e', g1, g2⟩ := items_at C R (hv ι' hpre s.heap) hg
    cases e'
    obtain ⟨cv, c1, c2⟩ := g2.get hxi
    refine wpAny_pyNext_enum_item he hit g1 (x := cv) (by simpa using c1) hei fun h' ho hit' hT hsz hk => ?_
    refine wpAny_letOwnedTupleGo_enum ho fun h'' he'' hs'' => ?_
    have hs2 : Heap.SameBut e h' h'' := hs''
    have helt : e < s.heap.objs.size := Heap.lt_size he
    have kk2 : ∀ b o, b ∉ [e, it] → s.heap.get? b = some o → h''.get? b = some o := fun b o hb e' => hs2.extBut b o (fun q => hb (by simp [q])) (hk b o (fun q => hb (by simp [q])) (fun q => hb (by simp [q])) e')
    have im : Imm s.heap h'' := fun b o e' hmu => ⟨o.slots, kk2 b o (fun hb => by
      simp at hb
      rcases hb with rfl | rfl
      · rw [he] at e'; cases e'; exact hmu (.inl ⟨_, rfl, by decide⟩)
      · obtain ⟨o', e2, m2⟩ := listIter_mut hit; rw [e'] at e2; cases e2; exact hmu m2) e'⟩
    refine hQ _ h'' _ kk2 ⟨_, [.int i s.toks, cv], rfl, ⟨_, hs2.extBut _ _ (Nat.ne_of_gt helt) hT, rfl, _, rfl⟩, ?_⟩ ⟨⟨cv, by simpa using he''⟩, hit'.at fun o y => hs2.extBut _ _ hei.symm y⟩
    exact vCons ⟨s.toks, by simp⟩ (vCons (c2.mono (List.prefix_refl _) im) vNil)
  done := fun s ι' H Q E hpre hpi R hg st hQ => by
    obtain ⟨⟨old, he⟩, hit⟩ := st
    obtain ⟨a, vs, e', g1, g2⟩ := items_at C R (hv ι' hpre s.heap) hg
    cases e'
    dsimp only at he hit
    rw [enumL_length] at he hit
    refine wpAny_pyNext_enum_end hh he hit g1 (by simp [g2.length]) fun h' hs => ?_
    exact hQ h' s.toks fun b o hb e' => hs b o (fun q => hb (by simp [q])) e'
  self := fun i s Q E st hQ => let ⟨⟨old, he⟩, _⟩ := st; wpAny_pyIter_enum he hQ

theorem P_enum (C : CxOk G) (hh : A.handled = none) {es : List Expr} {kk : Nat} {p : Pos} (R : Rel G A env ι q s) {vs : List V} {cvs : List Value} (hv : VRels G ι s.heap vs cvs) :
    Sat G A env ι s (enumV G.sn vs q) (fun ι' h it cv => ItRel G A (.Tuple es kk p) s.heap ι' h it cv ∧ ∀ q', enumV G.sn vs q = .ok it q' → it.g q'.H)
      (fun Q E s => wpAny G.M A (call (.type "enumerate") cvs) (fun x s₁ => wpAny G.M A (pyIter x) Q E s₁) E s) := by
  unfold enumV
  split
  · rename_i v
    obtain ⟨cv, _, rfl, h1, e⟩ := hv; rw [show _ = [] from e]
    split
    · rename_i xs hi
      obtain ⟨l, vs, rfl, g1, g2⟩ := items_at C R.st h1 hi
      intro Q E hQ
      have hl : l < s.heap.objs.size := by obtain ⟨o, e, _⟩ := g1; exact Heap.lt_size e
      have hv2 : ∀ ι', ι <+: ι' → ∀ h, VRel G ι' h v (.ref l) := fun ι' hp h => by
        unfold itemsOf at hi
        split at hi
        · obtain ⟨a, e1, e2⟩ := h1; exact ⟨a, getElem?_prefix hp e1, e2⟩
        · exact h1
        · cases hi
      refine call_enumerate_list g1 fun h' hE hL hsz hk => wpAny_pyIter_enum hE ?_
      have n0 : s.heap.get? s.heap.objs.size = none := Heap.get?_none_of_le (Nat.le_refl _)
      have n1 : s.heap.get? (s.heap.objs.size + 1) = none := Heap.get?_none_of_le (by omega)
      refine hQ ι _ _ (Post.stays (tk := s.toks) R hk) ⟨⟨_, [s.heap.objs.size + 1, s.heap.objs.size], _, rfl, ⟨⟨_, by simpa using hE⟩, hL⟩, fun b hb => ?_, fun _ _ => trivial,
        itr_enum C hh hv2 (Nat.succ_ne_self _) (Nat.ne_of_lt (Nat.lt_succ_of_lt hl)) (Nat.ne_of_lt hl)⟩, fun q' e => ?_⟩
      · simp at hb
        rcases hb with rfl | rfl
        · exact ⟨n1, (R.fresh_ne n1).1⟩
        · exact ⟨n0, (R.fresh_ne n0).1⟩
      · cases e; exact hi
    · trivial
  · trivial

theorem I_enum (C : CxOk G) (hh : hq = true) {ts : List Expr} {kk : Nat} {pt p pos : Pos} {es : List Expr} {m : Cm (List V)} (hx : env.kindOf (Str.ofString "enumerate") = some .globalImplicit)
    (hv : nsIn G.K mainGlobals (Str.ofString "enumerate") = some none) (h1 : EvL G hq k env es m) (hp : (backTo pos (starEach es env)).any (·.1) = false) :
    EvI G hq k env (.Tuple ts kk pt) (.Call (.Name (Str.ofString "enumerate") p) es [] pos) (m.bnd fun vs => enumV G.sn vs) :=
  I_blt C hx hv (bv := .type "enumerate") (by decide +kernel) (by decide) (by decide) (callsBy_type _) h1 hp fun A ι q s vs cvs ha R hv => P_enum C (ha.hd hh) R hv
end
end Mine

set_option Elab.async false
set_option linter.unusedVariables false
set_option linter.unusedSimpArgs false
namespace Mine
open PySem PySem.W PyProof.Rows

/-! ## running comprehensions -/
section
variable {g : Hp → Prop} {bd : V → Cm Unit} {tst : Cm Bool} {elt : Cm V} {lc l1 : Loc} {H H2 H3 : Hp} {v y : V} {u : Unit} {caps : List String}
theorem compStep_yes (h1 : bd v ⟨lc, H⟩ = .ok u ⟨l1, H⟩) (h2 : tst ⟨l1, H⟩ = .ok true ⟨l1, H2⟩) (h3 : elt ⟨l1, H2⟩ = .ok y ⟨l1, H3⟩) : compStep bd tst elt lc v H = .ok (some y) H3 := by
  unfold compStep; rw [h1]; dsimp only; rw [h2, keepL_of]; dsimp only; rw [h3, keepL_of]
theorem compStep_no (h1 : bd v ⟨lc, H⟩ = .ok u ⟨l1, H⟩) (h2 : tst ⟨l1, H⟩ = .ok false ⟨l1, H2⟩) : compStep bd tst elt lc v H = .ok none H2 := by
  unfold compStep; rw [h1]; dsimp only; rw [h2, keepL_of]
theorem compF_run (hg : g H) (φ : V → Option V) : ∀ xs : List V, (∀ x ∈ xs, compStep bd tst elt lc x H = .ok (φ x) H) → compF g bd tst elt lc xs H = .ok (xs.filterMap φ) H
  | [], _ => rfl
  | x :: xs, h => by
    unfold compF
    rw [h x (.head _)]
    dsimp only
    rw [if_pos hg, compF_run hg φ xs fun z hz => h z (.tail _ hz)]
    dsimp only
    cases e : φ x with
    | none => rw [List.filterMap_cons_none e]; rfl
    | some z => rw [List.filterMap_cons_some e]; rfl
theorem compM_run {mi : Cm It} {it : It} {l : Loc} {H1 : Hp} {ys : List V} (h1 : mi ⟨l, H⟩ = .ok it ⟨l, H1⟩) (hl : it.xs.length ≤ 1000000) (hc : compF it.g bd tst elt (res caps l) it.xs H1 = .ok ys H2) :
    compM caps mi bd tst elt ⟨l, H⟩ = .ok (.ref H2.length) ⟨l, H2 ++ [.list ys]⟩ := by
  unfold compM
  rw [bnd_ok h1]
  dsimp only
  rw [if_pos hl, hc]
theorem res_get {l : Loc} {x : String} (h : x ∈ caps) : res caps l x = l x := if_pos h
end
theorem set_same {H : Hp} {i : Nat} {o : O} (h : H[i]? = some o) : H.set i o = H := by
  apply List.ext_getElem?
  intro j
  by_cases e : i = j
  · subst e; rw [List.getElem?_set_self (List.getElem?_eq_some_iff.mp h).1, h]
  · rw [List.getElem?_set_ne e]

/-! ## rows of booleans -/
def firstF : List Bool → Option Nat
  | [] => none
  | false :: _ => some 0
  | true :: r => (firstF r).map (· + 1)
theorem firstF_some : ∀ {bs : List Bool} {j : Nat}, firstF bs = some j → j < bs.length ∧ bs[j]? = some false
  | [], _, e => by cases e
  | false :: r, _, e => by cases e; exact ⟨by simp, rfl⟩
  | true :: r, j, e => by
    obtain ⟨k, h1, rfl⟩ := Option.map_eq_some_iff.mp e
    obtain ⟨h2, h3⟩ := firstF_some h1
    exact ⟨by simp; omega, by simpa using h3⟩
def frees (a : Int) : List Bool → List Int
  | [] => []
  | false :: r => a :: frees (a + 1) r
  | true :: r => frees (a + 1) r
theorem frees_len : ∀ (bs : List Bool) (a : Int), (frees a bs).length + bs.count true = bs.length
  | [], _ => rfl
  | false :: r, a => by have := frees_len r (a + 1); simp [frees] at this ⊢; omega
  | true :: r, a => by have := frees_len r (a + 1); simp [frees] at this ⊢; omega

theorem any_false : ∀ bs : List Bool, ((bs.map PyData.bool).any fun y => PyData.eqv y (.bool false)) = (firstF bs).isSome
  | [] => rfl
  | false :: r => by simp [firstF, eqv_bool]
  | true :: r => by simp only [List.map_cons, List.any_cons, eqv_bool, any_false r, firstF, Option.isSome_map]; simp
theorem idx_false : ∀ bs : List Bool, ((bs.map PyData.bool).findIdx fun y => PyData.eqv y (.bool false)) = (firstF bs).getD bs.length
  | [] => rfl
  | false :: r => by simp [firstF, eqv_bool, List.findIdx_cons]
  | true :: r => by
    rw [List.map_cons, List.findIdx_cons, eqv_bool, idx_false r]
    cases h : firstF r <;> simp [firstF, h]
section
variable {H : Hp} {i : Nat} {bs : List Bool} {l : Loc}
theorem r_in_false (h : H[i]? = some (.list (bs.map .bool))) : inV (.bool false) (.ref i) ⟨l, H⟩ = .ok (firstF bs).isSome ⟨l, H⟩ := by
  simp only [inV, h, inD, toD8_bool, toD_bools, Option.bind_some, shaped_bool, (sh_bools bs).shaped (by omega), Bool.and_self, if_true, any_false]
theorem r_index_false {j : Nat} (h : H[i]? = some (.list (bs.map .bool))) (hl : bs.length ≤ 1000) (hj : firstF bs = some j) : indexV (.ref i) (.bool false) ⟨l, H⟩ = .ok (.int j) ⟨l, H⟩ := by
  have e : ((bs.map PyData.bool).findIdx fun y => PyData.eqv y (.bool false)) = j := by rw [idx_false, hj]; rfl
  have hlt := (firstF_some hj).1
  simp only [indexV, h, toD8_bool, toD_bools, e]
  rw [if_pos ⟨⟨shaped_bool _, (sh_bools bs).shaped (by omega)⟩, by simp; omega, by simpa using hlt⟩]
theorem r_item_bool (sn : List Int) {k : Int} {b : Bool} (h : H[i]? = some (.list (bs.map .bool))) (h0 : 0 ≤ k) (h1 : k < 1000000) (hb : bs[k.toNat]? = some b) : itemV sn (.ref i) (.int k) ⟨l, H⟩ = .ok (.bool b) ⟨l, H⟩ := by
  simp [itemV, h, h0, h1, hb]
theorem r_setitem_bool {k : Int} {b : Bool} (h : H[i]? = some (.list (bs.map .bool))) (h0 : 0 ≤ k) (h1 : k < 1000000) (hb : k < bs.length) : setItemV (.ref i) (.int k) (.bool b) ⟨l, H⟩ = .ok () ⟨l, H.set i (.list ((bs.set k.toNat b).map .bool))⟩ := by
  simp [setItemV, h, h0, h1, hb, List.map_set]
theorem r_len_list (sn : List Int) {xs : List V} (h : H[i]? = some (.list xs)) (hl : xs.length < 1000000) : lenV sn [.ref i] ⟨l, H⟩ = .ok (.int xs.length) ⟨l, H⟩ := by
  simp [lenV, h, hl]
end
def goodB (bs : List Bool) (k : Int) : Bool := if 0 ≤ k ∧ k < bs.length then (bs[k.toNat]?).getD false else false

theorem range_frees (bs : List Bool) (φ : V → Option V) (hφ : ∀ (i : Nat) (b : Bool), bs[i]? = some b → φ (.int i) = if b then none else some (.int i)) : ∀ (r : List Bool) (a : Nat), bs.drop a = r → (rangeL a r.length).filterMap φ = (frees a r).map V.int
  | [], a, _ => rfl
  | b :: r, a, e => by
    have hb : bs[a]? = some b := by
      have : (bs.drop a)[0]? = some b := by rw [e]; rfl
      simpa using this
    have hr : bs.drop (a + 1) = r := by rw [← List.drop_drop, e]; rfl
    have ih := range_frees bs φ hφ r (a + 1) hr
    have e1 : ((a : Int) + 1) = ((a + 1 : Nat) : Int) := by push_cast; rfl
    rw [List.length_cons, rangeL, e1]
    cases b with
    | true => rw [List.filterMap_cons_none (by rw [hφ a true hb]; rfl), ih, frees, e1]
    | false => rw [List.filterMap_cons_some (by rw [hφ a false hb]; rfl), ih, frees, e1]; rfl
def phiE : V → Option V
  | .tup [.int i, .bool b] => if b then none else some (.int i)
  | _ => none
theorem enum_frees : ∀ (bs : List Bool) (a : Int), (enumL a (bs.map V.bool)).filterMap phiE = (frees a bs).map V.int
  | [], _ => rfl
  | true :: r, a => by rw [List.map_cons, enumL, List.filterMap_cons_none (by rfl), enum_frees r, frees]
  | false :: r, a => by rw [List.map_cons, enumL, List.filterMap_cons_some (by rfl), enum_frees r, frees]; rfl
theorem enum_mem : ∀ (bs : List Bool) (a : Int) (x : V), x ∈ enumL a (bs.map V.bool) → ∃ i b, x = .tup [.int i, .bool b]
  | [], _, _, h => by cases h
  | b :: r, a, x, h => by
    rw [List.map_cons, enumL] at h
    rcases List.mem_cons.mp h with rfl | h
    · exact ⟨_, _, rfl⟩
    · exact enum_mem r _ x h
def phiB : V → Option V
  | .bool true => some (.bool true)
  | _ => none
theorem map_trues : ∀ bs : List Bool, (bs.map V.bool).filterMap phiB = List.replicate (bs.count true) (V.bool true)
  | [] => rfl
  | true :: r => by rw [List.map_cons, List.filterMap_cons_some (by rfl), map_trues r, List.count_cons_self, List.replicate_succ]
  | false :: r => by rw [List.map_cons, List.filterMap_cons_none (by rfl), map_trues r, List.count_cons_of_ne (by decide)]
end Mine

open PySem PySem.W PyProof.Rows
set_option Elab.async false
set_option maxRecDepth 100000
set_option maxHeartbeats 8000000
open_top hd03 for PySem.Challenge.rw_uf060003_03

set_option Elab.async false
set_option linter.unusedVariables false
set_option maxRecDepth 100000
namespace Mine
open PySem PySem.W PyProof.Rows
section
variable {P : Params}
theorem ns_NoRoom : nsIn (hd03.heap_39 P) mainGlobals (Str.ofString "NoRoom") = some (some (.ref 44)) := by kernel_rfl
theorem ns_NotOut : nsIn (hd03.heap_39 P) mainGlobals (Str.ofString "NotOut") = some (some (.ref 56)) := by kernel_rfl
theorem ns_Shelf : nsIn (hd03.heap_39 P) mainGlobals (Str.ofString "Shelf") = some (some (.ref 113)) := by kernel_rfl
theorem ns__law_cell_at : nsIn (hd03.heap_39 P) mainGlobals (Str.ofString "_law_cell_at") = some (some (.ref 124)) := by kernel_rfl
theorem ns__law_deed : nsIn (hd03.heap_39 P) mainGlobals (Str.ofString "_law_deed") = some (some (.ref 152)) := by kernel_rfl
theorem ns__law_given : nsIn (hd03.heap_39 P) mainGlobals (Str.ofString "_law_given") = some (some (.ref 145)) := by kernel_rfl
theorem ns__law_stands : nsIn (hd03.heap_39 P) mainGlobals (Str.ofString "_law_stands") = some (some (.ref 157)) := by kernel_rfl
theorem ns__law_taken : nsIn (hd03.heap_39 P) mainGlobals (Str.ofString "_law_taken") = some (some (.ref 138)) := by kernel_rfl
theorem ns__law_whole : nsIn (hd03.heap_39 P) mainGlobals (Str.ofString "_law_whole") = some (some (.ref 131)) := by kernel_rfl
theorem ns_bool : nsIn (hd03.heap_39 P) mainGlobals (Str.ofString "bool") = some none := by kernel_rfl
theorem ns_enumerate : nsIn (hd03.heap_39 P) mainGlobals (Str.ofString "enumerate") = some none := by kernel_rfl
theorem ns_int : nsIn (hd03.heap_39 P) mainGlobals (Str.ofString "int") = some none := by kernel_rfl
theorem ns_isinstance : nsIn (hd03.heap_39 P) mainGlobals (Str.ofString "isinstance") = some none := by kernel_rfl
theorem ns_len : nsIn (hd03.heap_39 P) mainGlobals (Str.ofString "len") = some none := by kernel_rfl
theorem ns_list : nsIn (hd03.heap_39 P) mainGlobals (Str.ofString "list") = some none := by kernel_rfl
theorem ns_range : nsIn (hd03.heap_39 P) mainGlobals (Str.ofString "range") = some none := by kernel_rfl
theorem isi_int : isiTab (hd03.heap_39 P) "int" = true := by kernel_rfl
theorem isi_bool : isiTab (hd03.heap_39 P) "bool" = true := by kernel_rfl
theorem isi_list : isiTab (hd03.heap_39 P) "list" = true := by kernel_rfl
theorem xok_NoRoom : xclOk (hd03.heap_39 P) 44 = true := by kernel_rfl
theorem xok_NotOut : xclOk (hd03.heap_39 P) 56 = true := by kernel_rfl
theorem keep_Shelf : keepIn (hd03.heap_39 P) (.ref 113) = true := by kernel_rfl
theorem makes_Shelf : makesIn (hd03.heap_39 P) 113 = true := by kernel_rfl
theorem init_Shelf : findIn (hd03.heap_39 P) (.ref 113) "__init__" = some (some (.ref 72)) := by kernel_rfl
theorem meth_Shelf_take : methOk (hd03.heap_39 P) 113 96 (Str.ofString "take") = true := by kernel_rfl
theorem meth_Shelf_has : methOk (hd03.heap_39 P) 113 103 (Str.ofString "has") = true := by kernel_rfl
theorem meth_Shelf_give : methOk (hd03.heap_39 P) 113 110 (Str.ofString "give") = true := by kernel_rfl
theorem meth_Shelf_free : methOk (hd03.heap_39 P) 113 82 (Str.ofString "free") = true := by kernel_rfl
theorem meth_Shelf_out : methOk (hd03.heap_39 P) 113 77 (Str.ofString "out") = true := by kernel_rfl
end
def clsL : List (String × Addr) := [("Shelf", 113)]
def xclL : List (String × Addr) := [("RoomError", 31), ("NoRoom", 44), ("NotOut", 56)]
noncomputable def Gx (w : World) (hB : Heap) (os : OsState) (mg mb : Str → Option Value) (sa : Addr) (sv : List Value) (sn : List Int) : Cx := { prog := PySem.Challenge.rw_uf060003_03.row.prog, w := w, K := hd03.heap_39 w.params, hB := hB, os := os, mg := mg, mb := mb, cls := fun c => clsL.lookup c, xcl := fun c => xclL.lookup c, sa := sa, sv := sv, sn := sn }
section
variable {w : World} {hB : Heap} {os : OsState} {mg mb : Str → Option Value} {sa : Addr} {sv : List Value} {sn : List Int}
theorem hasF_page : HasF (Gx w hB os mg mb sa sv sn) "page" := hasF_of (L := clsL) (fun _ => rfl) (by kernel_rfl)
theorem hasF_size : HasF (Gx w hB os mg mb sa sv sn) "size" := hasF_of (L := clsL) (fun _ => rfl) (by kernel_rfl)
theorem hasF_taken : HasF (Gx w hB os mg mb sa sv sn) "taken" := hasF_of (L := clsL) (fun _ => rfl) (by kernel_rfl)
theorem hasS_page : HasS (Gx w hB os mg mb sa sv sn) "page" := hasS_of (L := clsL) (fun _ => rfl) (by kernel_rfl)
theorem hasS_size : HasS (Gx w hB os mg mb sa sv sn) "size" := hasS_of (L := clsL) (fun _ => rfl) (by kernel_rfl)
theorem hasS_taken : HasS (Gx w hB os mg mb sa sv sn) "taken" := hasS_of (L := clsL) (fun _ => rfl) (by kernel_rfl)
noncomputable def t_Shelf_init_1 (sn : List Int) : Cm Fl := ((getV "page").bnd fun v1 => (getV "self").bnd fun v2 => (setAttrV "page" v1 v2).bnd fun _ => Cm.pur Fl.next)
noncomputable def t_Shelf_init_2 (sn : List Int) : Cm Fl := ((getV "size").bnd fun v3 => (getV "self").bnd fun v4 => (setAttrV "size" v3 v4).bnd fun _ => Cm.pur Fl.next)
noncomputable def t_Shelf_init_3 (sn : List Int) : Cm Fl := (((((Cm.pur (V.bool false)).bnd fun v5 => (Cm.pur ([] : List V)).bnd fun vs6 => Cm.pur (v5 :: vs6)).bnd fun vs7 => newL vs7).bnd fun v8 => (getV "slots").bnd fun v9 => mulV v8 v9).bnd fun v10 => (getV "self").bnd fun v11 => (setAttrV "taken" v10 v11).bnd fun _ => Cm.pur Fl.next)
noncomputable def m_Shelf_init (sn : List Int) : Cm Fl := (seqV (t_Shelf_init_1 sn) (seqV (t_Shelf_init_2 sn) (t_Shelf_init_3 sn)))
noncomputable def f_Shelf_init (sn : List Int) : Fc := fnV ["self", "page", "size", "slots"] (m_Shelf_init sn)
theorem s_Shelf_init (C : CxOk (Gx w hB os mg mb sa sv sn)) : FnOk (Gx w hB os mg mb sa sv sn) true 1 72 (f_Shelf_init sn) :=
  FnOk.of C (k := 0) ⟨⟨_, _, _, rfl⟩, by kernel_rfl, rfl, rfl, rfl, rfl, (by intro vals h; obtain ⟨a0, a1, a2, a3, rfl⟩ := len4 h; kernel_rfl), by decide +kernel, by decide, by decide +kernel, rfl, rfl, rfl⟩ fun L =>
  (Xs_cons (X_setattr C hasS_page (E_loc (by kernel_rfl) (by kernel_rfl)) (E_loc (by kernel_rfl) (by kernel_rfl)) rfl) (Xs_cons (X_setattr C hasS_size (E_loc (by kernel_rfl) (by kernel_rfl)) (E_loc (by kernel_rfl) (by kernel_rfl)) rfl) (Xs_one (X_setattr C hasS_taken (E_bin C (E_list (EL_cons E_bool EL_nil (by kernel_rfl))) (E_loc (by kernel_rfl) (by kernel_rfl)) P_mul) (E_loc (by kernel_rfl) (by kernel_rfl)) rfl))))
noncomputable def b_Shelf_take_1 (sn : List Int) : Cm Fl := ((((((getV "self").bnd fun v8 => attrV "taken" v8).bnd fun v9 => (getV "slot").bnd fun v10 => itemV sn v9 v10).bnd fun v11 => truthV v11).bnd fun b12 => Cm.pur (!b12)).bnd fun b18 => if b18 then (seqV ((Cm.pur (V.bool true)).bnd fun v13 => ((getV "self").bnd fun v14 => attrV "taken" v14).bnd fun v15 => (getV "slot").bnd fun v16 => (setItemV v15 v16 v13).bnd fun _ => Cm.pur Fl.next) ((getV "slot").bnd fun v17 => Cm.pur (Fl.ret v17))) else (Cm.pur Fl.next))
noncomputable def t_Shelf_take_1 (sn : List Int) : Cm Fl := (((((((getV "self").bnd fun v2 => attrV "taken" v2).bnd fun v3 => (Cm.pur ([] : List V)).bnd fun vs4 => Cm.pur (v3 :: vs4)).bnd fun vs1 => lenV sn vs1).bnd fun v5 => (Cm.pur ([] : List V)).bnd fun vs6 => Cm.pur (v5 :: vs6)).bnd fun vs7 => rangeV vs7).bnd fun it19 => forV it19.g (setV "slot") (b_Shelf_take_1 sn) it19.xs)
noncomputable def t_Shelf_take_2 (sn : List Int) : Cm Fl := (((Cm.pur (V.str "no slot is free")).bnd fun v20 => (Cm.pur ([] : List V)).bnd fun vs21 => Cm.pur (v20 :: vs21)).bnd fun _ => raiseV "NoRoom")
noncomputable def m_Shelf_take (sn : List Int) : Cm Fl := (seqV (t_Shelf_take_1 sn) (t_Shelf_take_2 sn))
noncomputable def f_Shelf_take (sn : List Int) : Fc := fnV ["self"] (m_Shelf_take sn)
theorem s_Shelf_take (C : CxOk (Gx w hB os mg mb sa sv sn)) : FnOk (Gx w hB os mg mb sa sv sn) true 1 96 (f_Shelf_take sn) :=
  FnOk.of C (k := 0) ⟨⟨_, _, _, rfl⟩, by kernel_rfl, rfl, rfl, rfl, rfl, (by intro vals h; obtain ⟨a0, rfl⟩ := len1 h; kernel_rfl), by decide +kernel, by decide, by decide +kernel, rfl, rfl, rfl⟩ fun L =>
  (Xs_cons (X_for (I_range C rfl (by kernel_rfl) ns_range (EL_cons (E_blt (bv := (.builtin "len")) C (by kernel_rfl) ns_len (by decide +kernel) (by decide) (by decide) (callsBy_builtin _) (EL_cons (E_attr C hasF_taken (E_loc (by kernel_rfl) (by kernel_rfl)) rfl) EL_nil (by kernel_rfl)) (by kernel_rfl) (fun A ι q s vs cvs ha R hv => P_len C R hv)) EL_nil (by kernel_rfl)) (by kernel_rfl)) (A_name (.inl (by kernel_rfl))) (Xs_one (X_if (T_not (T_val (E_sub C (E_attr C hasF_taken (E_loc (by kernel_rfl) (by kernel_rfl)) rfl) (E_loc (by kernel_rfl) (by kernel_rfl)) (fun _ _ => rfl)) rfl)) (Xs_cons (X_setitem C E_bool (E_attr C hasF_taken (E_loc (by kernel_rfl) (by kernel_rfl)) rfl) (E_loc (by kernel_rfl) (by kernel_rfl)) rfl) (Xs_one (X_ret (E_loc (by kernel_rfl) (by kernel_rfl))))) Xs_nil)) (fun _ => rfl)) (Xs_one (X_raise C rfl (by kernel_rfl) ns_NoRoom (by kernel_rfl) xok_NoRoom (by kernel_rfl) (EL_cons E_str EL_nil (by kernel_rfl)) (by decide) (by kernel_rfl) (by intro q vs q' h; cases h; decide))))
noncomputable def t_law_cell_at_1 (sn : List Int) : Cm Fl := (((getV "_law_k").bnd fun v4 => (((getV "_law_script").bnd fun v2 => (Cm.pur ([] : List V)).bnd fun vs3 => Cm.pur (v2 :: vs3)).bnd fun vs1 => lenV sn vs1).bnd fun v5 => (cmpV .Lt v4 v5).bnd fun x6 => Cm.pur x6).bnd fun b10 => if b10 then (((getV "_law_script").bnd fun v7 => (getV "_law_k").bnd fun v8 => itemV sn v7 v8).bnd fun v9 => Cm.pur (Fl.ret v9)) else (Cm.pur Fl.next))
noncomputable def t_law_cell_at_2 (sn : List Int) : Cm Fl := ((Cm.pur (V.int 0)).bnd fun v11 => Cm.pur (Fl.ret v11))
noncomputable def m_law_cell_at (sn : List Int) : Cm Fl := (seqV (t_law_cell_at_1 sn) (t_law_cell_at_2 sn))
noncomputable def f_law_cell_at (sn : List Int) : Fc := fnV ["_law_script", "_law_k"] (m_law_cell_at sn)
theorem s_law_cell_at (C : CxOk (Gx w hB os mg mb sa sv sn)) : FnOk (Gx w hB os mg mb sa sv sn) true 1 124 (f_law_cell_at sn) :=
  FnOk.of C (k := 0) ⟨⟨_, _, _, rfl⟩, by kernel_rfl, rfl, rfl, rfl, rfl, (by intro vals h; obtain ⟨a0, a1, rfl⟩ := len2 h; kernel_rfl), by decide +kernel, by decide, by decide +kernel, rfl, rfl, rfl⟩ fun L =>
  (Xs_cons (X_if (T_cmp C (E_loc (by kernel_rfl) (by kernel_rfl)) (E_blt (bv := (.builtin "len")) C (by kernel_rfl) ns_len (by decide +kernel) (by decide) (by decide) (callsBy_builtin _) (EL_cons (E_loc (by kernel_rfl) (by kernel_rfl)) EL_nil (by kernel_rfl)) (by kernel_rfl) (fun A ι q s vs cvs ha R hv => P_len C R hv)) (by kernel_rfl)) (Xs_one (X_ret (E_sub C (E_loc (by kernel_rfl) (by kernel_rfl)) (E_loc (by kernel_rfl) (by kernel_rfl)) (fun _ _ => rfl)))) Xs_nil) (Xs_one (X_ret E_int)))
noncomputable def t_Shelf_has_1 (sn : List Int) : Cm Fl := ((((Cm.pur (V.int 0)).bnd fun v1 => (getV "slot").bnd fun v2 => (cmpV .LtE v1 v2).bnd fun x3 => if x3 then ((((getV "self").bnd fun v5 => attrV "taken" v5).bnd fun v6 => (Cm.pur ([] : List V)).bnd fun vs7 => Cm.pur (v6 :: vs7)).bnd fun vs4 => lenV sn vs4).bnd fun v8 => (cmpV .Lt v2 v8).bnd fun x9 => Cm.pur (V.bool x9) else Cm.pur (V.bool false)).bnd fun v13 => (truthV v13).bnd fun b14 => if b14 then (((getV "self").bnd fun v10 => attrV "taken" v10).bnd fun v11 => (getV "slot").bnd fun v12 => itemV sn v11 v12) else Cm.pur v13).bnd fun v15 => Cm.pur (Fl.ret v15))
noncomputable def m_Shelf_has (sn : List Int) : Cm Fl := (t_Shelf_has_1 sn)
noncomputable def f_Shelf_has (sn : List Int) : Fc := fnV ["self", "slot"] (m_Shelf_has sn)
theorem s_Shelf_has (C : CxOk (Gx w hB os mg mb sa sv sn)) : FnOk (Gx w hB os mg mb sa sv sn) true 1 103 (f_Shelf_has sn) :=
  FnOk.of C (k := 0) ⟨⟨_, _, _, rfl⟩, by kernel_rfl, rfl, rfl, rfl, rfl, (by intro vals h; obtain ⟨a0, a1, rfl⟩ := len2 h; kernel_rfl), by decide +kernel, by decide, by decide +kernel, rfl, rfl, rfl⟩ fun L =>
  (Xs_one (X_ret (E_boolop (EB_and (E_cmp2 C E_int (E_loc (by kernel_rfl) (by kernel_rfl)) (E_blt (bv := (.builtin "len")) C (by kernel_rfl) ns_len (by decide +kernel) (by decide) (by decide) (callsBy_builtin _) (EL_cons (E_attr C hasF_taken (E_loc (by kernel_rfl) (by kernel_rfl)) rfl) EL_nil (by kernel_rfl)) (by kernel_rfl) (fun A ι q s vs cvs ha R hv => P_len C R hv)) (by kernel_rfl)) (EB_one (E_sub C (E_attr C hasF_taken (E_loc (by kernel_rfl) (by kernel_rfl)) rfl) (E_loc (by kernel_rfl) (by kernel_rfl)) (fun _ _ => rfl)))))))
noncomputable def t_Shelf_give_1 (sn : List Int) : Cm Fl := (((((getV "self").bnd fun v2 => (methV "Shelf" "has" v2).bnd fun _ => ((getV "slot").bnd fun v3 => (Cm.pur ([] : List V)).bnd fun vs4 => Cm.pur (v3 :: vs4)).bnd fun vs1 => callF (f_Shelf_has sn) (v2 :: vs1)).bnd fun v5 => truthV v5).bnd fun b6 => Cm.pur (!b6)).bnd fun b9 => if b9 then (((Cm.pur (V.str "no such slot is out")).bnd fun v7 => (Cm.pur ([] : List V)).bnd fun vs8 => Cm.pur (v7 :: vs8)).bnd fun _ => raiseV "NotOut") else (Cm.pur Fl.next))
noncomputable def t_Shelf_give_2 (sn : List Int) : Cm Fl := ((Cm.pur (V.bool false)).bnd fun v10 => ((getV "self").bnd fun v11 => attrV "taken" v11).bnd fun v12 => (getV "slot").bnd fun v13 => (setItemV v12 v13 v10).bnd fun _ => Cm.pur Fl.next)
noncomputable def m_Shelf_give (sn : List Int) : Cm Fl := (seqV (t_Shelf_give_1 sn) (t_Shelf_give_2 sn))
noncomputable def f_Shelf_give (sn : List Int) : Fc := fnV ["self", "slot"] (m_Shelf_give sn)
theorem s_Shelf_give (C : CxOk (Gx w hB os mg mb sa sv sn)) : FnOk (Gx w hB os mg mb sa sv sn) true 2 110 (f_Shelf_give sn) :=
  FnOk.of C (k := 1) ⟨⟨_, _, _, rfl⟩, by kernel_rfl, rfl, rfl, rfl, rfl, (by intro vals h; obtain ⟨a0, a1, rfl⟩ := len2 h; kernel_rfl), by decide +kernel, by decide, by decide +kernel, rfl, rfl, rfl⟩ fun L =>
  (Xs_cons (X_if (T_not (T_val (E_meth C (by kernel_rfl) meth_Shelf_has (s_Shelf_has C) (by decide) (E_loc (by kernel_rfl) (by kernel_rfl)) (EL_cons (E_loc (by kernel_rfl) (by kernel_rfl)) EL_nil (by kernel_rfl)) rfl rfl (by kernel_rfl) (by kernel_rfl)) rfl)) (Xs_one (X_raise C rfl (by kernel_rfl) ns_NotOut (by kernel_rfl) xok_NotOut (by kernel_rfl) (EL_cons E_str EL_nil (by kernel_rfl)) (by decide) (by kernel_rfl) (by intro q vs q' h; cases h; decide))) Xs_nil) (Xs_one (X_setitem C E_bool (E_attr C hasF_taken (E_loc (by kernel_rfl) (by kernel_rfl)) rfl) (E_loc (by kernel_rfl) (by kernel_rfl)) rfl)))
noncomputable def t_law_given_1 (sn : List Int) : Cm Fl := (tryV ((((getV "_law_shelf").bnd fun v2 => (methV "Shelf" "give" v2).bnd fun _ => ((getV "_law_slot").bnd fun v3 => (Cm.pur ([] : List V)).bnd fun vs4 => Cm.pur (v3 :: vs4)).bnd fun vs1 => callF (f_Shelf_give sn) (v2 :: vs1)).bnd fun v5 => (Cm.pur V.none).bnd fun v6 => (cmpV .Is v5 v6).bnd fun x7 => Cm.pur (V.bool x7)).bnd fun v8 => Cm.pur (Fl.ret v8)) (fun c => if c = "NotOut" then ((Cm.pur (V.bool false)).bnd fun v9 => Cm.pur (Fl.ret v9)) else Cm.stk))
noncomputable def m_law_given (sn : List Int) : Cm Fl := (t_law_given_1 sn)
noncomputable def f_law_given (sn : List Int) : Fc := fnV ["_law_shelf", "_law_slot"] (m_law_given sn)
theorem s_law_given (C : CxOk (Gx w hB os mg mb sa sv sn)) : FnOk (Gx w hB os mg mb sa sv sn) true 3 145 (f_law_given sn) :=
  FnOk.of C (k := 2) ⟨⟨_, _, _, rfl⟩, by kernel_rfl, rfl, rfl, rfl, rfl, (by intro vals h; obtain ⟨a0, a1, rfl⟩ := len2 h; kernel_rfl), by decide +kernel, by decide, by decide +kernel, rfl, rfl, rfl⟩ fun L =>
  (Xs_one (X_try (Xs_one (X_ret (E_cmp C (E_meth C (by kernel_rfl) meth_Shelf_give (s_Shelf_give C) (by decide) (E_loc (by kernel_rfl) (by kernel_rfl)) (EL_cons (E_loc (by kernel_rfl) (by kernel_rfl)) EL_nil (by kernel_rfl)) rfl rfl (by kernel_rfl) (by kernel_rfl)) E_none (by kernel_rfl)))) (fun c => (hd_if (H_hit (a := 56) C (by kernel_rfl) ns_NotOut (by kernel_rfl) (by kernel_rfl) (by kernel_rfl) (Xs_one (X_ret E_bool))) hd_stk))))
noncomputable def t_law_taken_1 (sn : List Int) : Cm Fl := (tryV (((getV "_law_shelf").bnd fun v2 => (methV "Shelf" "take" v2).bnd fun _ => (Cm.pur ([] : List V)).bnd fun vs1 => callF (f_Shelf_take sn) (v2 :: vs1)).bnd fun v3 => Cm.pur (Fl.ret v3)) (fun c => if c = "NoRoom" then (((Cm.pur (V.int 1)).bnd fun v4 => negV v4).bnd fun v5 => Cm.pur (Fl.ret v5)) else Cm.stk))
noncomputable def m_law_taken (sn : List Int) : Cm Fl := (t_law_taken_1 sn)
noncomputable def f_law_taken (sn : List Int) : Fc := fnV ["_law_shelf"] (m_law_taken sn)
theorem s_law_taken (C : CxOk (Gx w hB os mg mb sa sv sn)) : FnOk (Gx w hB os mg mb sa sv sn) true 2 138 (f_law_taken sn) :=
  FnOk.of C (k := 1) ⟨⟨_, _, _, rfl⟩, by kernel_rfl, rfl, rfl, rfl, rfl, (by intro vals h; obtain ⟨a0, rfl⟩ := len1 h; kernel_rfl), by decide +kernel, by decide, by decide +kernel, rfl, rfl, rfl⟩ fun L =>
  (Xs_one (X_try (Xs_one (X_ret (E_meth C (by kernel_rfl) meth_Shelf_take (s_Shelf_take C) (by decide) (E_loc (by kernel_rfl) (by kernel_rfl)) EL_nil rfl rfl (by kernel_rfl) (by kernel_rfl)))) (fun c => (hd_if (H_hit (a := 44) C (by kernel_rfl) ns_NoRoom (by kernel_rfl) (by kernel_rfl) (by kernel_rfl) (Xs_one (X_ret (E_neg E_int)))) hd_stk))))
noncomputable def t_law_whole_1 (sn : List Int) : Cm Fl := ((((getV "_law_found").bnd fun v2 => isiV sn "int" v2).bnd fun v7 => (truthV v7).bnd fun b8 => if b8 then (((getV "_law_found").bnd fun v4 => isiV sn "bool" v4).bnd fun v5 => (truthV v5).bnd fun b6 => Cm.pur (V.bool (!b6))) else Cm.pur v7).bnd fun v9 => Cm.pur (Fl.ret v9))
noncomputable def m_law_whole (sn : List Int) : Cm Fl := (t_law_whole_1 sn)
noncomputable def f_law_whole (sn : List Int) : Fc := fnV ["_law_found"] (m_law_whole sn)
theorem s_law_whole (C : CxOk (Gx w hB os mg mb sa sv sn)) : FnOk (Gx w hB os mg mb sa sv sn) true 1 131 (f_law_whole sn) :=
  FnOk.of C (k := 0) ⟨⟨_, _, _, rfl⟩, by kernel_rfl, rfl, rfl, rfl, rfl, (by intro vals h; obtain ⟨a0, rfl⟩ := len1 h; kernel_rfl), by decide +kernel, by decide, by decide +kernel, rfl, rfl, rfl⟩ fun L =>
  (Xs_one (X_ret (E_boolop (EB_and (E_isi C isi_int (by kernel_rfl) ns_isinstance (by kernel_rfl) ns_int (by decide +kernel) (by decide) (by decide) (E_loc (by kernel_rfl) (by kernel_rfl)) (by kernel_rfl) (by kernel_rfl)) (EB_one (E_not (E_isi C isi_bool (by kernel_rfl) ns_isinstance (by kernel_rfl) ns_bool (by decide +kernel) (by decide) (by decide) (E_loc (by kernel_rfl) (by kernel_rfl)) (by kernel_rfl) (by kernel_rfl))))))))
noncomputable def t_law_deed_1 (sn : List Int) : Cm Fl := ((((getV "_law_cell").bnd fun v1 => (Cm.pur (V.int 2)).bnd fun v2 => modV v1 v2).bnd fun v3 => (Cm.pur (V.int 0)).bnd fun v4 => (cmpV .Eq v3 v4).bnd fun x5 => Cm.pur x5).bnd fun b33 => if b33 then (seqV ((((getV "_law_shelf").bnd fun v7 => (Cm.pur ([] : List V)).bnd fun vs8 => Cm.pur (v7 :: vs8)).bnd fun vs6 => callF (f_law_taken sn) vs6).bnd fun v9 => (setV "_law_slot" v9).bnd fun _ => Cm.pur Fl.next) (seqV (((Cm.pur (V.int 1)).bnd fun v10 => negV v10).bnd fun v11 => (setV "_law_due" v11).bnd fun _ => Cm.pur Fl.next) (seqV (((Cm.pur (V.bool false)).bnd fun v12 => (getV "_law_row").bnd fun v13 => (cmpV .In v12 v13).bnd fun x14 => Cm.pur x14).bnd fun b23 => if b23 then (seqV (((getV "_law_row").bnd fun v16 => (kindV v16).bnd fun kd17 => if kd17 = true then (Cm.pur (V.bool false)).bnd fun v18 => indexV v16 v18 else Cm.stk).bnd fun v19 => (setV "_law_due" v19).bnd fun _ => Cm.pur Fl.next) ((Cm.pur (V.bool true)).bnd fun v20 => (getV "_law_row").bnd fun v21 => (getV "_law_due").bnd fun v22 => (setItemV v21 v22 v20).bnd fun _ => Cm.pur Fl.next)) else (Cm.pur Fl.next)) (((((getV "_law_slot").bnd fun v25 => (Cm.pur ([] : List V)).bnd fun vs26 => Cm.pur (v25 :: vs26)).bnd fun vs24 => callF (f_law_whole sn) vs24).bnd fun v30 => (truthV v30).bnd fun b31 => if b31 then ((getV "_law_slot").bnd fun v27 => (getV "_law_due").bnd fun v28 => (cmpV .Eq v27 v28).bnd fun x29 => Cm.pur (V.bool x29)) else Cm.pur v30).bnd fun v32 => Cm.pur (Fl.ret v32))))) else (Cm.pur Fl.next))
noncomputable def t_law_deed_2 (sn : List Int) : Cm Fl := (((((getV "_law_cell").bnd fun v34 => (Cm.pur (V.int 2)).bnd fun v35 => divV v34 v35).bnd fun v41 => ((((getV "_law_row").bnd fun v37 => (Cm.pur ([] : List V)).bnd fun vs38 => Cm.pur (v37 :: vs38)).bnd fun vs36 => lenV sn vs36).bnd fun v39 => (Cm.pur (V.int 5)).bnd fun v40 => addV v39 v40).bnd fun v42 => modV v41 v42).bnd fun v43 => (Cm.pur (V.int 2)).bnd fun v44 => subV v43 v44).bnd fun v45 => (setV "_law_slot" v45).bnd fun _ => Cm.pur Fl.next)
noncomputable def t_law_deed_3 (sn : List Int) : Cm Fl := ((((Cm.pur (V.int 0)).bnd fun v46 => (getV "_law_slot").bnd fun v47 => (cmpV .LtE v46 v47).bnd fun x48 => if x48 then (((getV "_law_row").bnd fun v50 => (Cm.pur ([] : List V)).bnd fun vs51 => Cm.pur (v50 :: vs51)).bnd fun vs49 => lenV sn vs49).bnd fun v52 => (cmpV .Lt v47 v52).bnd fun x53 => Cm.pur (V.bool x53) else Cm.pur (V.bool false)).bnd fun v56 => (truthV v56).bnd fun b57 => if b57 then ((getV "_law_row").bnd fun v54 => (getV "_law_slot").bnd fun v55 => itemV sn v54 v55) else Cm.pur v56).bnd fun v58 => (setV "_law_good" v58).bnd fun _ => Cm.pur Fl.next)
noncomputable def t_law_deed_4 (sn : List Int) : Cm Fl := (((getV "_law_good").bnd fun v59 => truthV v59).bnd fun b63 => if b63 then ((Cm.pur (V.bool false)).bnd fun v60 => (getV "_law_row").bnd fun v61 => (getV "_law_slot").bnd fun v62 => (setItemV v61 v62 v60).bnd fun _ => Cm.pur Fl.next) else (Cm.pur Fl.next))
noncomputable def t_law_deed_5 (sn : List Int) : Cm Fl := (((((getV "_law_shelf").bnd fun v67 => ((getV "_law_slot").bnd fun v65 => (Cm.pur ([] : List V)).bnd fun vs66 => Cm.pur (v65 :: vs66)).bnd fun vs68 => Cm.pur (v67 :: vs68)).bnd fun vs64 => callF (f_law_given sn) vs64).bnd fun v69 => (getV "_law_good").bnd fun v70 => (cmpV .Eq v69 v70).bnd fun x71 => Cm.pur (V.bool x71)).bnd fun v72 => Cm.pur (Fl.ret v72))
noncomputable def m_law_deed (sn : List Int) : Cm Fl := (seqV (t_law_deed_1 sn) (seqV (t_law_deed_2 sn) (seqV (t_law_deed_3 sn) (seqV (t_law_deed_4 sn) (t_law_deed_5 sn)))))
noncomputable def f_law_deed (sn : List Int) : Fc := fnV ["_law_shelf", "_law_row", "_law_cell"] (m_law_deed sn)
theorem s_law_deed (C : CxOk (Gx w hB os mg mb sa sv sn)) : FnOk (Gx w hB os mg mb sa sv sn) true 4 152 (f_law_deed sn) :=
  FnOk.of C (k := 3) ⟨⟨_, _, _, rfl⟩, by kernel_rfl, rfl, rfl, rfl, rfl, (by intro vals h; obtain ⟨a0, a1, a2, rfl⟩ := len3 h; kernel_rfl), by decide +kernel, by decide, by decide +kernel, rfl, rfl, rfl⟩ fun L =>
  (Xs_cons (X_if (T_cmp C (E_bin C (E_loc (by kernel_rfl) (by kernel_rfl)) E_int P_mod) E_int (by kernel_rfl)) (Xs_cons (X_assign (.inl (by kernel_rfl)) (E_call C (by kernel_rfl) ns__law_taken (by kernel_rfl) (by kernel_rfl) (s_law_taken C) (by decide) (EL_cons (E_loc (by kernel_rfl) (by kernel_rfl)) EL_nil (by kernel_rfl)) (by kernel_rfl)) rfl) (Xs_cons (X_assign (.inl (by kernel_rfl)) (E_neg E_int) rfl) (Xs_cons (X_if (T_cmp C E_bool (E_loc (by kernel_rfl) (by kernel_rfl)) (by kernel_rfl)) (Xs_cons (X_assign (.inl (by kernel_rfl)) (E_bm1 C true bm_index (P_index C) (E_loc (by kernel_rfl) (by kernel_rfl)) E_bool rfl rfl (by kernel_rfl) (by kernel_rfl) (by kernel_rfl)) rfl) (Xs_one (X_setitem C E_bool (E_loc (by kernel_rfl) (by kernel_rfl)) (E_loc (by kernel_rfl) (by kernel_rfl)) rfl))) Xs_nil) (Xs_one (X_ret (E_boolop (EB_and (E_call C (by kernel_rfl) ns__law_whole (by kernel_rfl) (by kernel_rfl) (s_law_whole C) (by decide) (EL_cons (E_loc (by kernel_rfl) (by kernel_rfl)) EL_nil (by kernel_rfl)) (by kernel_rfl)) (EB_one (E_cmp C (E_loc (by kernel_rfl) (by kernel_rfl)) (E_loc (by kernel_rfl) (by kernel_rfl)) (by kernel_rfl)))))))))) Xs_nil) (Xs_cons (X_assign (.inl (by kernel_rfl)) (E_bin C (E_bin C (E_bin C (E_loc (by kernel_rfl) (by kernel_rfl)) E_int P_div) (E_bin C (E_blt (bv := (.builtin "len")) C (by kernel_rfl) ns_len (by decide +kernel) (by decide) (by decide) (callsBy_builtin _) (EL_cons (E_loc (by kernel_rfl) (by kernel_rfl)) EL_nil (by kernel_rfl)) (by kernel_rfl) (fun A ι q s vs cvs ha R hv => P_len C R hv)) E_int P_add) P_mod) E_int P_sub) rfl) (Xs_cons (X_assign (.inl (by kernel_rfl)) (E_boolop (EB_and (E_cmp2 C E_int (E_loc (by kernel_rfl) (by kernel_rfl)) (E_blt (bv := (.builtin "len")) C (by kernel_rfl) ns_len (by decide +kernel) (by decide) (by decide) (callsBy_builtin _) (EL_cons (E_loc (by kernel_rfl) (by kernel_rfl)) EL_nil (by kernel_rfl)) (by kernel_rfl) (fun A ι q s vs cvs ha R hv => P_len C R hv)) (by kernel_rfl)) (EB_one (E_sub C (E_loc (by kernel_rfl) (by kernel_rfl)) (E_loc (by kernel_rfl) (by kernel_rfl)) (fun _ _ => rfl))))) rfl) (Xs_cons (X_if (T_val (E_loc (by kernel_rfl) (by kernel_rfl)) rfl) (Xs_one (X_setitem C E_bool (E_loc (by kernel_rfl) (by kernel_rfl)) (E_loc (by kernel_rfl) (by kernel_rfl)) rfl)) Xs_nil) (Xs_one (X_ret (E_cmp C (E_call C (by kernel_rfl) ns__law_given (by kernel_rfl) (by kernel_rfl) (s_law_given C) (by decide) (EL_cons (E_loc (by kernel_rfl) (by kernel_rfl)) (EL_cons (E_loc (by kernel_rfl) (by kernel_rfl)) EL_nil (by kernel_rfl)) (by kernel_rfl)) (by kernel_rfl)) (E_loc (by kernel_rfl) (by kernel_rfl)) (by kernel_rfl))))))))
noncomputable def c_Shelf_free_1 (sn : List Int) : Cm V := compM [] ((((getV "self").bnd fun v1 => attrV "taken" v1).bnd fun v2 => (Cm.pur ([] : List V)).bnd fun vs3 => Cm.pur (v2 :: vs3)).bnd fun vs4 => enumV sn vs4) (set2V "slot" "one") (((getV "one").bnd fun v5 => truthV v5).bnd fun b6 => Cm.pur (!b6)) (getV "slot")
noncomputable def t_Shelf_free_1 (sn : List Int) : Cm Fl := ((c_Shelf_free_1 sn).bnd fun v7 => Cm.pur (Fl.ret v7))
noncomputable def m_Shelf_free (sn : List Int) : Cm Fl := (t_Shelf_free_1 sn)
noncomputable def f_Shelf_free (sn : List Int) : Fc := fnV ["self"] (m_Shelf_free sn)
theorem s_Shelf_free (C : CxOk (Gx w hB os mg mb sa sv sn)) : FnOk (Gx w hB os mg mb sa sv sn) true 1 82 (f_Shelf_free sn) :=
  FnOk.of C (k := 0) ⟨⟨_, _, _, rfl⟩, by kernel_rfl, rfl, rfl, rfl, rfl, (by intro vals h; obtain ⟨a0, rfl⟩ := len1 h; kernel_rfl), by decide +kernel, by decide, by decide +kernel, rfl, rfl, rfl⟩ fun L =>
  (Xs_one (X_ret (E_comp [] (by kernel_rfl) (by kernel_rfl) (I_enum C rfl (by kernel_rfl) ns_enumerate (EL_cons (E_attr C hasF_taken (E_loc (by kernel_rfl) (by kernel_rfl)) rfl) EL_nil (by kernel_rfl)) (by kernel_rfl)) (fun _ => (A_pair rfl (.inl (by kernel_rfl)) (.inl (by kernel_rfl)))) (bd_pair (by decide) (by decide)) (fun _ => (TS_one (T_not (T_val (E_loc (by kernel_rfl) (by kernel_rfl)) rfl)))) (fun _ => (E_loc (by kernel_rfl) (by kernel_rfl))) (fun _ => rfl))))
noncomputable def c_Shelf_out_1 (sn : List Int) : Cm V := compM [] (((getV "self").bnd fun v2 => attrV "taken" v2).bnd fun v3 => itOf sn v3) (setV "one") ((getV "one").bnd fun v4 => truthV v4) (getV "one")
noncomputable def t_Shelf_out_1 (sn : List Int) : Cm Fl := ((((c_Shelf_out_1 sn).bnd fun v5 => (Cm.pur ([] : List V)).bnd fun vs6 => Cm.pur (v5 :: vs6)).bnd fun vs1 => lenV sn vs1).bnd fun v7 => Cm.pur (Fl.ret v7))
noncomputable def m_Shelf_out (sn : List Int) : Cm Fl := (t_Shelf_out_1 sn)
noncomputable def f_Shelf_out (sn : List Int) : Fc := fnV ["self"] (m_Shelf_out sn)
theorem s_Shelf_out (C : CxOk (Gx w hB os mg mb sa sv sn)) : FnOk (Gx w hB os mg mb sa sv sn) true 1 77 (f_Shelf_out sn) :=
  FnOk.of C (k := 0) ⟨⟨_, _, _, rfl⟩, by kernel_rfl, rfl, rfl, rfl, rfl, (by intro vals h; obtain ⟨a0, rfl⟩ := len1 h; kernel_rfl), by decide +kernel, by decide, by decide +kernel, rfl, rfl, rfl⟩ fun L =>
  (Xs_one (X_ret (E_blt (bv := (.builtin "len")) C (by kernel_rfl) ns_len (by decide +kernel) (by decide) (by decide) (callsBy_builtin _) (EL_cons (E_comp [] (by kernel_rfl) (by kernel_rfl) (I_list C rfl (.name _ _) (E_attr C hasF_taken (E_loc (by kernel_rfl) (by kernel_rfl)) rfl)) (fun _ => (A_name (.inl (by kernel_rfl)))) (bd_name (by decide)) (fun _ => (TS_one (T_val (E_loc (by kernel_rfl) (by kernel_rfl)) rfl))) (fun _ => (E_loc (by kernel_rfl) (by kernel_rfl))) (fun _ => rfl)) EL_nil (by kernel_rfl)) (by kernel_rfl) (fun A ι q s vs cvs ha R hv => P_len C R hv))))
noncomputable def b_law_stands_1 (sn : List Int) : Cm Fl := (((getV "_law_one").bnd fun v2 => (getV "_law_copy").bnd fun v3 => (cmpV .NotEq v2 v3).bnd fun x4 => Cm.pur x4).bnd fun b6 => if b6 then ((Cm.pur (V.bool false)).bnd fun v5 => Cm.pur (Fl.ret v5)) else (Cm.pur Fl.next))
noncomputable def t_law_stands_1 (sn : List Int) : Cm Fl := (((getV "_law_kept").bnd fun v1 => itOf sn v1).bnd fun it7 => forV it7.g (set2V "_law_one" "_law_copy") (b_law_stands_1 sn) it7.xs)
noncomputable def c_law_stands_1 (sn : List Int) : Cm V := compM ["_law_row"] (((((getV "_law_row").bnd fun v9 => (Cm.pur ([] : List V)).bnd fun vs10 => Cm.pur (v9 :: vs10)).bnd fun vs8 => lenV sn vs8).bnd fun v11 => (Cm.pur ([] : List V)).bnd fun vs12 => Cm.pur (v11 :: vs12)).bnd fun vs13 => rangeV vs13) (setV "_law_slot") ((((getV "_law_row").bnd fun v14 => (getV "_law_slot").bnd fun v15 => itemV sn v14 v15).bnd fun v16 => truthV v16).bnd fun b17 => Cm.pur (!b17)) (getV "_law_slot")
noncomputable def t_law_stands_2 (sn : List Int) : Cm Fl := ((c_law_stands_1 sn).bnd fun v18 => (setV "_law_free" v18).bnd fun _ => Cm.pur Fl.next)
noncomputable def t_law_stands_3 (sn : List Int) : Cm Fl := (((getV "_law_shelf").bnd fun v20 => (methV "Shelf" "free" v20).bnd fun _ => (Cm.pur ([] : List V)).bnd fun vs19 => callF (f_Shelf_free sn) (v20 :: vs19)).bnd fun v21 => (setV "_law_found" v21).bnd fun _ => Cm.pur Fl.next)
noncomputable def t_law_stands_4 (sn : List Int) : Cm Fl := (((getV "_law_shelf").bnd fun v23 => (methV "Shelf" "out" v23).bnd fun _ => (Cm.pur ([] : List V)).bnd fun vs22 => callF (f_Shelf_out sn) (v23 :: vs22)).bnd fun v24 => (setV "_law_many" v24).bnd fun _ => Cm.pur Fl.next)
noncomputable def t_law_stands_5 (sn : List Int) : Cm Fl := ((((((getV "_law_found").bnd fun v26 => isiV sn "list" v26).bnd fun v27 => truthV v27).bnd fun b28 => Cm.pur (!b28)).bnd fun b47 => if b47 then Cm.pur true else ((((((getV "_law_many").bnd fun v30 => (Cm.pur ([] : List V)).bnd fun vs31 => Cm.pur (v30 :: vs31)).bnd fun vs29 => callF (f_law_whole sn) vs29).bnd fun v32 => truthV v32).bnd fun b33 => Cm.pur (!b33)).bnd fun b46 => if b46 then Cm.pur true else (((getV "_law_many").bnd fun v42 => ((((getV "_law_row").bnd fun v35 => (Cm.pur ([] : List V)).bnd fun vs36 => Cm.pur (v35 :: vs36)).bnd fun vs34 => lenV sn vs34).bnd fun v40 => (((getV "_law_free").bnd fun v38 => (Cm.pur ([] : List V)).bnd fun vs39 => Cm.pur (v38 :: vs39)).bnd fun vs37 => lenV sn vs37).bnd fun v41 => subV v40 v41).bnd fun v43 => (cmpV .NotEq v42 v43).bnd fun x44 => Cm.pur x44).bnd fun b45 => if b45 then Cm.pur true else (Cm.pur false)))).bnd fun b49 => if b49 then ((Cm.pur (V.bool false)).bnd fun v48 => Cm.pur (Fl.ret v48)) else (Cm.pur Fl.next))
noncomputable def b_law_stands_2 (sn : List Int) : Cm Fl := ((((((getV "_law_slot").bnd fun v52 => (Cm.pur ([] : List V)).bnd fun vs53 => Cm.pur (v52 :: vs53)).bnd fun vs51 => callF (f_law_whole sn) vs51).bnd fun v54 => truthV v54).bnd fun b55 => Cm.pur (!b55)).bnd fun b57 => if b57 then ((Cm.pur (V.bool false)).bnd fun v56 => Cm.pur (Fl.ret v56)) else (Cm.pur Fl.next))
noncomputable def t_law_stands_6 (sn : List Int) : Cm Fl := (((getV "_law_found").bnd fun v50 => itOf sn v50).bnd fun it58 => forV it58.g (setV "_law_slot") (b_law_stands_2 sn) it58.xs)
noncomputable def t_law_stands_7 (sn : List Int) : Cm Fl := (((getV "_law_found").bnd fun v59 => (getV "_law_free").bnd fun v60 => (cmpV .NotEq v59 v60).bnd fun x61 => Cm.pur x61).bnd fun b63 => if b63 then ((Cm.pur (V.bool false)).bnd fun v62 => Cm.pur (Fl.ret v62)) else (Cm.pur Fl.next))
noncomputable def t_law_stands_8 (sn : List Int) : Cm Fl := (((getV "_law_kept").bnd fun v65 => (kindV v65).bnd fun kd66 => if kd66 then meth0V "clear" true v65 else Cm.stk).bnd fun _ => Cm.pur Fl.next)
noncomputable def t_law_stands_9 (sn : List Int) : Cm Fl := (((getV "_law_kept").bnd fun v68 => (kindV v68).bnd fun kd77 => if kd77 = true then (((getV "_law_found").bnd fun v74 => ((((getV "_law_found").bnd fun v70 => (Cm.pur ([] : List V)).bnd fun vs71 => Cm.pur (v70 :: vs71)).bnd fun vs69 => listOfV sn vs69).bnd fun v72 => (Cm.pur ([] : List V)).bnd fun vs73 => Cm.pur (v72 :: vs73)).bnd fun vs75 => Cm.pur (v74 :: vs75)).bnd fun vs76 => newT vs76).bnd fun v78 => appendV v68 v78 else Cm.stk).bnd fun _ => Cm.pur Fl.next)
noncomputable def t_law_stands_10 (sn : List Int) : Cm Fl := (((getV "_law_shelf").bnd fun v80 => (methV "Shelf" "free" v80).bnd fun _ => (Cm.pur ([] : List V)).bnd fun vs79 => callF (f_Shelf_free sn) (v80 :: vs79)).bnd fun v81 => (setV "_law_later" v81).bnd fun _ => Cm.pur Fl.next)
noncomputable def t_law_stands_11 (sn : List Int) : Cm Fl := (((getV "_law_later").bnd fun v83 => (kindV v83).bnd fun kd87 => if kd87 = true then (((getV "_law_row").bnd fun v85 => (Cm.pur ([] : List V)).bnd fun vs86 => Cm.pur (v85 :: vs86)).bnd fun vs84 => lenV sn vs84).bnd fun v88 => appendV v83 v88 else Cm.stk).bnd fun _ => Cm.pur Fl.next)
noncomputable def t_law_stands_12 (sn : List Int) : Cm Fl := ((((getV "_law_shelf").bnd fun v90 => (methV "Shelf" "free" v90).bnd fun _ => (Cm.pur ([] : List V)).bnd fun vs89 => callF (f_Shelf_free sn) (v90 :: vs89)).bnd fun v91 => (getV "_law_free").bnd fun v92 => (cmpV .Eq v91 v92).bnd fun x93 => Cm.pur (V.bool x93)).bnd fun v94 => Cm.pur (Fl.ret v94))
noncomputable def m_law_stands (sn : List Int) : Cm Fl := (seqV (t_law_stands_1 sn) (seqV (t_law_stands_2 sn) (seqV (t_law_stands_3 sn) (seqV (t_law_stands_4 sn) (seqV (t_law_stands_5 sn) (seqV (t_law_stands_6 sn) (seqV (t_law_stands_7 sn) (seqV (t_law_stands_8 sn) (seqV (t_law_stands_9 sn) (seqV (t_law_stands_10 sn) (seqV (t_law_stands_11 sn) (t_law_stands_12 sn))))))))))))
noncomputable def f_law_stands (sn : List Int) : Fc := fnV ["_law_shelf", "_law_row", "_law_kept"] (m_law_stands sn)
theorem s_law_stands (C : CxOk (Gx w hB os mg mb sa sv sn)) : FnOk (Gx w hB os mg mb sa sv sn) true 2 157 (f_law_stands sn) :=
  FnOk.of C (k := 1) ⟨⟨_, _, _, rfl⟩, by kernel_rfl, rfl, rfl, rfl, rfl, (by intro vals h; obtain ⟨a0, a1, a2, rfl⟩ := len3 h; kernel_rfl), by decide +kernel, by decide, by decide +kernel, rfl, rfl, rfl⟩ fun L =>
  (Xs_cons (X_for (I_list C rfl (.pair _ _ _) (E_loc (by kernel_rfl) (by kernel_rfl))) (A_pair rfl (.inl (by kernel_rfl)) (.inl (by kernel_rfl))) (Xs_one (X_if (T_cmp C (E_loc (by kernel_rfl) (by kernel_rfl)) (E_loc (by kernel_rfl) (by kernel_rfl)) (by kernel_rfl)) (Xs_one (X_ret E_bool)) Xs_nil)) (fun _ => rfl)) (Xs_cons (X_setcomp ["_law_row"] (by kernel_rfl) (by kernel_rfl) (I_range C rfl (by kernel_rfl) ns_range (EL_cons (E_blt (bv := (.builtin "len")) C (by kernel_rfl) ns_len (by decide +kernel) (by decide) (by decide) (callsBy_builtin _) (EL_cons (E_cell (by kernel_rfl) (by kernel_rfl)) EL_nil (by kernel_rfl)) (by kernel_rfl) (fun A ι q s vs cvs ha R hv => P_len C R hv)) EL_nil (by kernel_rfl)) (by kernel_rfl)) (fun _ => (A_name (.inl (by kernel_rfl)))) (bd_name (by decide)) (fun _ => (TS_one (T_not (T_val (E_sub C (E_cell (by kernel_rfl) (by kernel_rfl)) (E_loc (by kernel_rfl) (by kernel_rfl)) (fun _ _ => rfl)) rfl)))) (fun _ => (E_loc (by kernel_rfl) (by kernel_rfl))) (fun _ => rfl) rfl (by kernel_rfl)) (Xs_cons (X_assign (.inl (by kernel_rfl)) (E_meth C (by kernel_rfl) meth_Shelf_free (s_Shelf_free C) (by decide) (E_loc (by kernel_rfl) (by kernel_rfl)) EL_nil rfl rfl (by kernel_rfl) (by kernel_rfl)) rfl) (Xs_cons (X_assign (.inl (by kernel_rfl)) (E_meth C (by kernel_rfl) meth_Shelf_out (s_Shelf_out C) (by decide) (E_loc (by kernel_rfl) (by kernel_rfl)) EL_nil rfl rfl (by kernel_rfl) (by kernel_rfl)) rfl) (Xs_cons (X_if (T_bool (TA_or (T_not (T_val (E_isi C isi_list (by kernel_rfl) ns_isinstance (by kernel_rfl) ns_list (by decide +kernel) (by decide) (by decide) (E_loc (by kernel_rfl) (by kernel_rfl)) (by kernel_rfl) (by kernel_rfl)) rfl)) (TA_or (T_not (T_val (E_call C (by kernel_rfl) ns__law_whole (by kernel_rfl) (by kernel_rfl) (s_law_whole C) (by decide) (EL_cons (E_loc (by kernel_rfl) (by kernel_rfl)) EL_nil (by kernel_rfl)) (by kernel_rfl)) rfl)) (TA_or (T_cmp C (E_loc (by kernel_rfl) (by kernel_rfl)) (E_bin C (E_blt (bv := (.builtin "len")) C (by kernel_rfl) ns_len (by decide +kernel) (by decide) (by decide) (callsBy_builtin _) (EL_cons (E_cell (by kernel_rfl) (by kernel_rfl)) EL_nil (by kernel_rfl)) (by kernel_rfl) (fun A ι q s vs cvs ha R hv => P_len C R hv)) (E_blt (bv := (.builtin "len")) C (by kernel_rfl) ns_len (by decide +kernel) (by decide) (by decide) (callsBy_builtin _) (EL_cons (E_loc (by kernel_rfl) (by kernel_rfl)) EL_nil (by kernel_rfl)) (by kernel_rfl) (fun A ι q s vs cvs ha R hv => P_len C R hv)) P_sub) (by kernel_rfl)) TA_or0)))) (Xs_one (X_ret E_bool)) Xs_nil) (Xs_cons (X_for (I_list C rfl (.name _ _) (E_loc (by kernel_rfl) (by kernel_rfl))) (A_name (.inl (by kernel_rfl))) (Xs_one (X_if (T_not (T_val (E_call C (by kernel_rfl) ns__law_whole (by kernel_rfl) (by kernel_rfl) (s_law_whole C) (by decide) (EL_cons (E_loc (by kernel_rfl) (by kernel_rfl)) EL_nil (by kernel_rfl)) (by kernel_rfl)) rfl)) (Xs_one (X_ret E_bool)) Xs_nil)) (fun _ => rfl)) (Xs_cons (X_if (T_cmp C (E_loc (by kernel_rfl) (by kernel_rfl)) (E_loc (by kernel_rfl) (by kernel_rfl)) (by kernel_rfl)) (Xs_one (X_ret E_bool)) Xs_nil) (Xs_cons (X_expr (E_bm0 C bm_clear (E_loc (by kernel_rfl) (by kernel_rfl)) rfl (by kernel_rfl)) rfl rfl) (Xs_cons (X_expr (E_bm1 C true bm_append (P_append C) (E_loc (by kernel_rfl) (by kernel_rfl)) (E_tuple (EL_cons (E_loc (by kernel_rfl) (by kernel_rfl)) (EL_cons (E_blt (bv := (.type "list")) C (by kernel_rfl) ns_list (by decide +kernel) (by decide) (by decide) (callsBy_type _) (EL_cons (E_loc (by kernel_rfl) (by kernel_rfl)) EL_nil (by kernel_rfl)) (by kernel_rfl) (fun A ι q s vs cvs ha R hv => P_listOf C R hv)) EL_nil (by kernel_rfl)) (by kernel_rfl))) rfl rfl (by kernel_rfl) (by kernel_rfl) (by kernel_rfl)) rfl rfl) (Xs_cons (X_assign (.inl (by kernel_rfl)) (E_meth C (by kernel_rfl) meth_Shelf_free (s_Shelf_free C) (by decide) (E_loc (by kernel_rfl) (by kernel_rfl)) EL_nil rfl rfl (by kernel_rfl) (by kernel_rfl)) rfl) (Xs_cons (X_expr (E_bm1 C true bm_append (P_append C) (E_loc (by kernel_rfl) (by kernel_rfl)) (E_blt (bv := (.builtin "len")) C (by kernel_rfl) ns_len (by decide +kernel) (by decide) (by decide) (callsBy_builtin _) (EL_cons (E_cell (by kernel_rfl) (by kernel_rfl)) EL_nil (by kernel_rfl)) (by kernel_rfl) (fun A ι q s vs cvs ha R hv => P_len C R hv)) rfl rfl (by kernel_rfl) (by kernel_rfl) (by kernel_rfl)) rfl rfl) (Xs_one (X_ret (E_cmp C (E_meth C (by kernel_rfl) meth_Shelf_free (s_Shelf_free C) (by decide) (E_loc (by kernel_rfl) (by kernel_rfl)) EL_nil rfl rfl (by kernel_rfl) (by kernel_rfl)) (E_loc (by kernel_rfl) (by kernel_rfl)) (by kernel_rfl)))))))))))))))
noncomputable def t_law_1 (sn : List Int) : Cm Fl := (((((getV "_law_script").bnd fun v4 => ((Cm.pur (V.int 0)).bnd fun v2 => (Cm.pur ([] : List V)).bnd fun vs3 => Cm.pur (v2 :: vs3)).bnd fun vs5 => Cm.pur (v4 :: vs5)).bnd fun vs1 => callF (f_law_cell_at sn) vs1).bnd fun v6 => (Cm.pur (V.int 40)).bnd fun v7 => modV v6 v7).bnd fun v8 => (setV "_law_page" v8).bnd fun _ => Cm.pur Fl.next)
noncomputable def t_law_2 (sn : List Int) : Cm Fl := (((Cm.pur (V.int 1)).bnd fun v16 => ((((getV "_law_script").bnd fun v12 => ((Cm.pur (V.int 1)).bnd fun v10 => (Cm.pur ([] : List V)).bnd fun vs11 => Cm.pur (v10 :: vs11)).bnd fun vs13 => Cm.pur (v12 :: vs13)).bnd fun vs9 => callF (f_law_cell_at sn) vs9).bnd fun v14 => (Cm.pur (V.int 60)).bnd fun v15 => modV v14 v15).bnd fun v17 => addV v16 v17).bnd fun v18 => (setV "_law_size" v18).bnd fun _ => Cm.pur Fl.next)
noncomputable def t_law_3 (sn : List Int) : Cm Fl := (((Cm.pur (V.int 1)).bnd fun v26 => ((((getV "_law_script").bnd fun v22 => ((Cm.pur (V.int 2)).bnd fun v20 => (Cm.pur ([] : List V)).bnd fun vs21 => Cm.pur (v20 :: vs21)).bnd fun vs23 => Cm.pur (v22 :: vs23)).bnd fun vs19 => callF (f_law_cell_at sn) vs19).bnd fun v24 => (Cm.pur (V.int 9)).bnd fun v25 => modV v24 v25).bnd fun v27 => addV v26 v27).bnd fun v28 => (setV "_law_slots" v28).bnd fun _ => Cm.pur Fl.next)
noncomputable def t_law_4 (sn : List Int) : Cm Fl := (((((((getV "_law_script").bnd fun v32 => ((Cm.pur (V.int 2)).bnd fun v30 => (Cm.pur ([] : List V)).bnd fun vs31 => Cm.pur (v30 :: vs31)).bnd fun vs33 => Cm.pur (v32 :: vs33)).bnd fun vs29 => callF (f_law_cell_at sn) vs29).bnd fun v34 => (Cm.pur (V.int 9)).bnd fun v35 => divV v34 v35).bnd fun v36 => (Cm.pur (V.int 8)).bnd fun v37 => modV v36 v37).bnd fun v38 => (Cm.pur (V.int 1)).bnd fun v39 => (cmpV .Eq v38 v39).bnd fun x40 => Cm.pur x40).bnd fun b53 => if b53 then (((Cm.pur (V.int 1)).bnd fun v50 => (((((getV "_law_script").bnd fun v44 => ((Cm.pur (V.int 2)).bnd fun v42 => (Cm.pur ([] : List V)).bnd fun vs43 => Cm.pur (v42 :: vs43)).bnd fun vs45 => Cm.pur (v44 :: vs45)).bnd fun vs41 => callF (f_law_cell_at sn) vs41).bnd fun v46 => (Cm.pur (V.int 72)).bnd fun v47 => divV v46 v47).bnd fun v48 => (Cm.pur (V.int 60)).bnd fun v49 => modV v48 v49).bnd fun v51 => addV v50 v51).bnd fun v52 => (setV "_law_slots" v52).bnd fun _ => Cm.pur Fl.next) else (Cm.pur Fl.next))
noncomputable def t_law_5 (sn : List Int) : Cm Fl := ((((getV "_law_page").bnd fun v59 => ((getV "_law_size").bnd fun v57 => ((getV "_law_slots").bnd fun v55 => (Cm.pur ([] : List V)).bnd fun vs56 => Cm.pur (v55 :: vs56)).bnd fun vs58 => Cm.pur (v57 :: vs58)).bnd fun vs60 => Cm.pur (v59 :: vs60)).bnd fun vs54 => makeV "Shelf" (f_Shelf_init sn) vs54).bnd fun v61 => (setV "_law_shelf" v61).bnd fun _ => Cm.pur Fl.next)
noncomputable def t_law_6 (sn : List Int) : Cm Fl := ((((getV "_law_page").bnd fun v67 => ((getV "_law_size").bnd fun v65 => ((getV "_law_slots").bnd fun v63 => (Cm.pur ([] : List V)).bnd fun vs64 => Cm.pur (v63 :: vs64)).bnd fun vs66 => Cm.pur (v65 :: vs66)).bnd fun vs68 => Cm.pur (v67 :: vs68)).bnd fun vs62 => makeV "Shelf" (f_Shelf_init sn) vs62).bnd fun v69 => (setV "_law_other" v69).bnd fun _ => Cm.pur Fl.next)
noncomputable def t_law_7 (sn : List Int) : Cm Fl := ((((getV "_law_other").bnd fun v71 => (methV "Shelf" "take" v71).bnd fun _ => (Cm.pur ([] : List V)).bnd fun vs70 => callF (f_Shelf_take sn) (v71 :: vs70)).bnd fun v72 => (Cm.pur (V.int 0)).bnd fun v73 => (cmpV .NotEq v72 v73).bnd fun x74 => Cm.pur x74).bnd fun b76 => if b76 then ((Cm.pur (V.bool false)).bnd fun v75 => Cm.pur (Fl.ret v75)) else (Cm.pur Fl.next))
noncomputable def t_law_8 (sn : List Int) : Cm Fl := (((((Cm.pur (V.bool false)).bnd fun v77 => (Cm.pur ([] : List V)).bnd fun vs78 => Cm.pur (v77 :: vs78)).bnd fun vs79 => newL vs79).bnd fun v80 => (getV "_law_slots").bnd fun v81 => mulV v80 v81).bnd fun v82 => (setV "_law_row" v82).bnd fun _ => Cm.pur Fl.next)
noncomputable def t_law_9 (sn : List Int) : Cm Fl := (((Cm.pur ([] : List V)).bnd fun vs83 => newL vs83).bnd fun v84 => (setV "_law_kept" v84).bnd fun _ => Cm.pur Fl.next)
noncomputable def b_law_1 (sn : List Int) : Cm Fl := (((((((getV "_law_shelf").bnd fun v93 => ((getV "_law_row").bnd fun v91 => ((getV "_law_cell").bnd fun v89 => (Cm.pur ([] : List V)).bnd fun vs90 => Cm.pur (v89 :: vs90)).bnd fun vs92 => Cm.pur (v91 :: vs92)).bnd fun vs94 => Cm.pur (v93 :: vs94)).bnd fun vs88 => callF (f_law_deed sn) vs88).bnd fun v95 => truthV v95).bnd fun b96 => Cm.pur (!b96)).bnd fun b107 => if b107 then Cm.pur true else ((((((getV "_law_shelf").bnd fun v102 => ((getV "_law_row").bnd fun v100 => ((getV "_law_kept").bnd fun v98 => (Cm.pur ([] : List V)).bnd fun vs99 => Cm.pur (v98 :: vs99)).bnd fun vs101 => Cm.pur (v100 :: vs101)).bnd fun vs103 => Cm.pur (v102 :: vs103)).bnd fun vs97 => callF (f_law_stands sn) vs97).bnd fun v104 => truthV v104).bnd fun b105 => Cm.pur (!b105)).bnd fun b106 => if b106 then Cm.pur true else (Cm.pur false))).bnd fun b109 => if b109 then ((Cm.pur (V.bool false)).bnd fun v108 => Cm.pur (Fl.ret v108)) else (Cm.pur Fl.next))
noncomputable def t_law_10 (sn : List Int) : Cm Fl := ((((getV "_law_script").bnd fun v85 => (Cm.pur (V.int 3)).bnd fun v86 => dropV sn v85 v86).bnd fun v87 => itOf sn v87).bnd fun it110 => forV it110.g (setV "_law_cell") (b_law_1 sn) it110.xs)
noncomputable def t_law_11 (sn : List Int) : Cm Fl := ((((((((getV "_law_shelf").bnd fun v112 => attrV "page" v112).bnd fun v113 => (Cm.pur ([] : List V)).bnd fun vs114 => Cm.pur (v113 :: vs114)).bnd fun vs111 => callF (f_law_whole sn) vs111).bnd fun v115 => truthV v115).bnd fun b116 => Cm.pur (!b116)).bnd fun b127 => if b127 then Cm.pur true else ((((getV "_law_shelf").bnd fun v117 => attrV "page" v117).bnd fun v118 => (getV "_law_page").bnd fun v119 => (cmpV .NotEq v118 v119).bnd fun x120 => Cm.pur x120).bnd fun b126 => if b126 then Cm.pur true else ((((getV "_law_shelf").bnd fun v121 => attrV "size" v121).bnd fun v122 => (getV "_law_size").bnd fun v123 => (cmpV .NotEq v122 v123).bnd fun x124 => Cm.pur x124).bnd fun b125 => if b125 then Cm.pur true else (Cm.pur false)))).bnd fun b129 => if b129 then ((Cm.pur (V.bool false)).bnd fun v128 => Cm.pur (Fl.ret v128)) else (Cm.pur Fl.next))
noncomputable def t_law_12 (sn : List Int) : Cm Fl := (((((getV "_law_shelf").bnd fun v135 => ((getV "_law_row").bnd fun v133 => ((getV "_law_kept").bnd fun v131 => (Cm.pur ([] : List V)).bnd fun vs132 => Cm.pur (v131 :: vs132)).bnd fun vs134 => Cm.pur (v133 :: vs134)).bnd fun vs136 => Cm.pur (v135 :: vs136)).bnd fun vs130 => callF (f_law_stands sn) vs130).bnd fun v157 => (truthV v157).bnd fun b158 => if b158 then (((getV "_law_other").bnd fun v155 => (((((Cm.pur (V.bool true)).bnd fun v138 => (Cm.pur ([] : List V)).bnd fun vs139 => Cm.pur (v138 :: vs139)).bnd fun vs140 => newL vs140).bnd fun v148 => ((((Cm.pur (V.bool false)).bnd fun v141 => (Cm.pur ([] : List V)).bnd fun vs142 => Cm.pur (v141 :: vs142)).bnd fun vs143 => newL vs143).bnd fun v146 => ((getV "_law_slots").bnd fun v144 => (Cm.pur (V.int 1)).bnd fun v145 => subV v144 v145).bnd fun v147 => mulV v146 v147).bnd fun v149 => addV v148 v149).bnd fun v153 => (((Cm.pur ([] : List V)).bnd fun vs150 => newL vs150).bnd fun v151 => (Cm.pur ([] : List V)).bnd fun vs152 => Cm.pur (v151 :: vs152)).bnd fun vs154 => Cm.pur (v153 :: vs154)).bnd fun vs156 => Cm.pur (v155 :: vs156)).bnd fun vs137 => callF (f_law_stands sn) vs137) else Cm.pur v157).bnd fun v159 => Cm.pur (Fl.ret v159))
noncomputable def m_law (sn : List Int) : Cm Fl := (seqV (t_law_1 sn) (seqV (t_law_2 sn) (seqV (t_law_3 sn) (seqV (t_law_4 sn) (seqV (t_law_5 sn) (seqV (t_law_6 sn) (seqV (t_law_7 sn) (seqV (t_law_8 sn) (seqV (t_law_9 sn) (seqV (t_law_10 sn) (seqV (t_law_11 sn) (t_law_12 sn))))))))))))
noncomputable def f_law (sn : List Int) : Fc := fnV ["_law_script"] (m_law sn)
theorem s_law (C : CxOk (Gx w hB os mg mb sa sv sn)) : FnOk (Gx w hB os mg mb sa sv sn) true 5 164 (f_law sn) :=
  FnOk.of C (k := 4) ⟨⟨_, _, _, rfl⟩, by kernel_rfl, rfl, rfl, rfl, rfl, (by intro vals h; obtain ⟨a0, rfl⟩ := len1 h; kernel_rfl), by decide +kernel, by decide, by decide +kernel, rfl, rfl, rfl⟩ fun L =>
  (Xs_cons (X_assign (.inl (by kernel_rfl)) (E_bin C (E_call C (by kernel_rfl) ns__law_cell_at (by kernel_rfl) (by kernel_rfl) (s_law_cell_at C) (by decide) (EL_cons (E_loc (by kernel_rfl) (by kernel_rfl)) (EL_cons E_int EL_nil (by kernel_rfl)) (by kernel_rfl)) (by kernel_rfl)) E_int P_mod) rfl) (Xs_cons (X_assign (.inl (by kernel_rfl)) (E_bin C E_int (E_bin C (E_call C (by kernel_rfl) ns__law_cell_at (by kernel_rfl) (by kernel_rfl) (s_law_cell_at C) (by decide) (EL_cons (E_loc (by kernel_rfl) (by kernel_rfl)) (EL_cons E_int EL_nil (by kernel_rfl)) (by kernel_rfl)) (by kernel_rfl)) E_int P_mod) P_add) rfl) (Xs_cons (X_assign (.inl (by kernel_rfl)) (E_bin C E_int (E_bin C (E_call C (by kernel_rfl) ns__law_cell_at (by kernel_rfl) (by kernel_rfl) (s_law_cell_at C) (by decide) (EL_cons (E_loc (by kernel_rfl) (by kernel_rfl)) (EL_cons E_int EL_nil (by kernel_rfl)) (by kernel_rfl)) (by kernel_rfl)) E_int P_mod) P_add) rfl) (Xs_cons (X_if (T_cmp C (E_bin C (E_bin C (E_call C (by kernel_rfl) ns__law_cell_at (by kernel_rfl) (by kernel_rfl) (s_law_cell_at C) (by decide) (EL_cons (E_loc (by kernel_rfl) (by kernel_rfl)) (EL_cons E_int EL_nil (by kernel_rfl)) (by kernel_rfl)) (by kernel_rfl)) E_int P_div) E_int P_mod) E_int (by kernel_rfl)) (Xs_one (X_assign (.inl (by kernel_rfl)) (E_bin C E_int (E_bin C (E_bin C (E_call C (by kernel_rfl) ns__law_cell_at (by kernel_rfl) (by kernel_rfl) (s_law_cell_at C) (by decide) (EL_cons (E_loc (by kernel_rfl) (by kernel_rfl)) (EL_cons E_int EL_nil (by kernel_rfl)) (by kernel_rfl)) (by kernel_rfl)) E_int P_div) E_int P_mod) P_add) rfl)) Xs_nil) (Xs_cons (X_assign (.inl (by kernel_rfl)) (E_make C (by kernel_rfl) ns_Shelf keep_Shelf (by kernel_rfl) (by kernel_rfl) makes_Shelf init_Shelf (by kernel_rfl) (s_Shelf_init C) (by decide) (EL_cons (E_loc (by kernel_rfl) (by kernel_rfl)) (EL_cons (E_loc (by kernel_rfl) (by kernel_rfl)) (EL_cons (E_loc (by kernel_rfl) (by kernel_rfl)) EL_nil (by kernel_rfl)) (by kernel_rfl)) (by kernel_rfl)) (by kernel_rfl)) rfl) (Xs_cons (X_assign (.inl (by kernel_rfl)) (E_make C (by kernel_rfl) ns_Shelf keep_Shelf (by kernel_rfl) (by kernel_rfl) makes_Shelf init_Shelf (by kernel_rfl) (s_Shelf_init C) (by decide) (EL_cons (E_loc (by kernel_rfl) (by kernel_rfl)) (EL_cons (E_loc (by kernel_rfl) (by kernel_rfl)) (EL_cons (E_loc (by kernel_rfl) (by kernel_rfl)) EL_nil (by kernel_rfl)) (by kernel_rfl)) (by kernel_rfl)) (by kernel_rfl)) rfl) (Xs_cons (X_if (T_cmp C (E_meth C (by kernel_rfl) meth_Shelf_take (s_Shelf_take C) (by decide) (E_loc (by kernel_rfl) (by kernel_rfl)) EL_nil rfl rfl (by kernel_rfl) (by kernel_rfl)) E_int (by kernel_rfl)) (Xs_one (X_ret E_bool)) Xs_nil) (Xs_cons (X_assign (.inl (by kernel_rfl)) (E_bin C (E_list (EL_cons E_bool EL_nil (by kernel_rfl))) (E_loc (by kernel_rfl) (by kernel_rfl)) P_mul) rfl) (Xs_cons (X_assign (.inl (by kernel_rfl)) (E_list EL_nil) rfl) (Xs_cons (X_for (I_list C rfl (.name _ _) (E_drop C (E_loc (by kernel_rfl) (by kernel_rfl)) E_int)) (A_name (.inl (by kernel_rfl))) (Xs_one (X_if (T_bool (TA_or (T_not (T_val (E_call C (by kernel_rfl) ns__law_deed (by kernel_rfl) (by kernel_rfl) (s_law_deed C) (by decide) (EL_cons (E_loc (by kernel_rfl) (by kernel_rfl)) (EL_cons (E_loc (by kernel_rfl) (by kernel_rfl)) (EL_cons (E_loc (by kernel_rfl) (by kernel_rfl)) EL_nil (by kernel_rfl)) (by kernel_rfl)) (by kernel_rfl)) (by kernel_rfl)) rfl)) (TA_or (T_not (T_val (E_call C (by kernel_rfl) ns__law_stands (by kernel_rfl) (by kernel_rfl) (s_law_stands C) (by decide) (EL_cons (E_loc (by kernel_rfl) (by kernel_rfl)) (EL_cons (E_loc (by kernel_rfl) (by kernel_rfl)) (EL_cons (E_loc (by kernel_rfl) (by kernel_rfl)) EL_nil (by kernel_rfl)) (by kernel_rfl)) (by kernel_rfl)) (by kernel_rfl)) rfl)) TA_or0))) (Xs_one (X_ret E_bool)) Xs_nil)) (fun _ => rfl)) (Xs_cons (X_if (T_bool (TA_or (T_not (T_val (E_call C (by kernel_rfl) ns__law_whole (by kernel_rfl) (by kernel_rfl) (s_law_whole C) (by decide) (EL_cons (E_attr C hasF_page (E_loc (by kernel_rfl) (by kernel_rfl)) rfl) EL_nil (by kernel_rfl)) (by kernel_rfl)) rfl)) (TA_or (T_cmp C (E_attr C hasF_page (E_loc (by kernel_rfl) (by kernel_rfl)) rfl) (E_loc (by kernel_rfl) (by kernel_rfl)) (by kernel_rfl)) (TA_or (T_cmp C (E_attr C hasF_size (E_loc (by kernel_rfl) (by kernel_rfl)) rfl) (E_loc (by kernel_rfl) (by kernel_rfl)) (by kernel_rfl)) TA_or0)))) (Xs_one (X_ret E_bool)) Xs_nil) (Xs_one (X_ret (E_boolop (EB_and (E_call C (by kernel_rfl) ns__law_stands (by kernel_rfl) (by kernel_rfl) (s_law_stands C) (by decide) (EL_cons (E_loc (by kernel_rfl) (by kernel_rfl)) (EL_cons (E_loc (by kernel_rfl) (by kernel_rfl)) (EL_cons (E_loc (by kernel_rfl) (by kernel_rfl)) EL_nil (by kernel_rfl)) (by kernel_rfl)) (by kernel_rfl)) (by kernel_rfl)) (EB_one (E_call C (by kernel_rfl) ns__law_stands (by kernel_rfl) (by kernel_rfl) (s_law_stands C) (by decide) (EL_cons (E_loc (by kernel_rfl) (by kernel_rfl)) (EL_cons (E_bin C (E_list (EL_cons E_bool EL_nil (by kernel_rfl))) (E_bin C (E_list (EL_cons E_bool EL_nil (by kernel_rfl))) (E_bin C (E_loc (by kernel_rfl) (by kernel_rfl)) E_int P_sub) P_mul) P_add) (EL_cons (E_list EL_nil) EL_nil (by kernel_rfl)) (by kernel_rfl)) (by kernel_rfl)) (by kernel_rfl))))))))))))))))))
end
end Mine

set_option Elab.async false
set_option linter.unusedVariables false
set_option linter.unusedSimpArgs false
set_option maxRecDepth 100000
namespace Mine
open PySem PySem.W PyProof.Rows

section
variable (sn : List Int) (H : Hp)
theorem v_lwhole_int (i : Int) : f_law_whole sn [.int i] H = .ok (.bool true) H := by
  simp [f_law_whole, m_law_whole, t_law_whole_1, r_fn, initL, r_bnd, r_pur, r_get, upd, r_isi, tyOf, r_truth, r_ite]
theorem v_cell (k : Int) (h0 : 0 ≤ k) (h1 : k < 1000) : ∃ c, f_law_cell_at sn [.scr, .int k] H = .ok (.int c) H := by
  have h6 : k < 1000000 := by omega
  by_cases h2 : k < (sn.length : Int)
  · have h3 : k.toNat < sn.length := by omega
    have h4 : sn[k.toNat]? = some sn[k.toNat] := List.getElem?_eq_getElem h3
    exact ⟨sn[k.toNat], by simp [f_law_cell_at, m_law_cell_at, t_law_cell_at_1, t_law_cell_at_2, r_fn, initL, r_bnd, r_pur, r_get, r_seq, upd, lenV, cmpV, h2, itemV, h0, h6, h4]⟩
  · exact ⟨0, by simp [f_law_cell_at, m_law_cell_at, t_law_cell_at_1, t_law_cell_at_2, r_fn, initL, r_bnd, r_pur, r_get, r_seq, upd, lenV, cmpV, h2]⟩

/-! ### Shelf -/
def shelfF (p z : Int) (t : Nat) : List (String × V) := [("page", .int p), ("size", .int z), ("taken", .ref t)]
theorem sf_page (p z : Int) (t : Nat) : (shelfF p z t).lookup "page" = some (.int p) := by simp [shelfF, List.lookup]
theorem sf_size (p z : Int) (t : Nat) : (shelfF p z t).lookup "size" = some (.int z) := by simp [shelfF, List.lookup]
theorem sf_taken (p z : Int) (t : Nat) : (shelfF p z t).lookup "taken" = some (.ref t) := by simp [shelfF, List.lookup]
theorem sf_take (p z : Int) (t : Nat) : (shelfF p z t).lookup "take" = none := by simp [shelfF, List.lookup]
theorem sf_has (p z : Int) (t : Nat) : (shelfF p z t).lookup "has" = none := by simp [shelfF, List.lookup]
theorem sf_give (p z : Int) (t : Nat) : (shelfF p z t).lookup "give" = none := by simp [shelfF, List.lookup]
theorem sf_free (p z : Int) (t : Nat) : (shelfF p z t).lookup "free" = none := by simp [shelfF, List.lookup]
theorem sf_out (p z : Int) (t : Nat) : (shelfF p z t).lookup "out" = none := by simp [shelfF, List.lookup]
structure IsShelf (H : Hp) (i t : Nat) (p z : Int) (bs : List Bool) : Prop where
  ob : H[i]? = some (.flds (shelfF p z t))
  ls : H[t]? = some (.list (bs.map V.bool))

theorem v_make (p z k : Int) (hk : 0 ≤ k ∧ k ≤ 1000) (l : Loc) : makeV "Shelf" (f_Shelf_init sn) [.int p, .int z, .int k] ⟨l, H⟩ =
    .ok (.inst "Shelf" H.length) ⟨l, H ++ [.flds (shelfF p z (H.length + 2)), .list [.bool false], .list ((List.replicate k.toNat false).map V.bool)]⟩ := by
  obtain ⟨l0, e0, a1, a2, a3, a4⟩ : ∃ l0, initL ["self", "page", "size", "slots"] [.inst "Shelf" H.length, .int p, .int z, .int k] = l0 ∧ l0 "self" = some (.inst "Shelf" H.length) ∧ l0 "page" = some (.int p) ∧ l0 "size" = some (.int z) ∧ l0 "slots" = some (.int k) :=
    ⟨_, rfl, by simp [initL, upd], by simp [initL, upd], by simp [initL, upd], by simp [initL, upd]⟩
  have s1 : t_Shelf_init_1 sn ⟨l0, H ++ [.flds []]⟩ = .ok .next ⟨l0, H ++ [.flds [("page", .int p)]]⟩ := by simp [t_Shelf_init_1, r_bnd, r_get, r_pur, a1, a2, r_setAttr, fset]
  have s2 : t_Shelf_init_2 sn ⟨l0, H ++ [.flds [("page", .int p)]]⟩ = .ok .next ⟨l0, H ++ [.flds [("page", .int p), ("size", .int z)]]⟩ := by simp [t_Shelf_init_2, r_bnd, r_get, r_pur, a1, a3, r_setAttr, fset]
  have hk1 : k ≤ 1000000 := by omega
  have hm : mulV (.ref (H.length + 1)) (.int k) ⟨l0, H ++ [.flds [("page", .int p), ("size", .int z)], .list [.bool false]]⟩ = .ok (.ref (H.length + 2)) ⟨l0, H ++ [.flds [("page", .int p), ("size", .int z)], .list [.bool false], .list ((List.replicate k.toNat false).map V.bool)]⟩ := by
    simp [mulV, hk.1, hk1]
  have s3 : t_Shelf_init_3 sn ⟨l0, H ++ [.flds [("page", .int p), ("size", .int z)]]⟩ = .ok .next ⟨l0, H ++ [.flds (shelfF p z (H.length + 2)), .list [.bool false], .list ((List.replicate k.toNat false).map V.bool)]⟩ := by
    simp [t_Shelf_init_3, r_bnd, r_get, r_pur, r_newL, a1, a4, hm, r_setAttr, fset, shelfF]
  rw [r_make]
  have : f_Shelf_init sn [.inst "Shelf" H.length, .int p, .int z, .int k] (H ++ [.flds []]) = .ok .none (H ++ [.flds (shelfF p z (H.length + 2)), .list [.bool false], .list ((List.replicate k.toNat false).map V.bool)]) :=
    fn_next (m := m_Shelf_init sn) (q := ⟨l0, _⟩) rfl (by rw [e0]; exact seq_at s1 (seq_at s2 s3))
  rw [this]

section
variable {H} {i t : Nat} {p z : Int} {bs : List Bool} (hS : IsShelf H i t p z bs) (hb : bs.length ≤ 1000)
include hS hb

theorem take_loop : ∀ (r : List Bool) (a : Nat) (l : Loc), l "self" = some (.inst "Shelf" i) → bs.drop a = r →
    (match firstF r with
    | some j => ∃ l', forV (fun _ => True) (setV "slot") (b_Shelf_take_1 sn) (rangeL a r.length) ⟨l, H⟩ = .ok (.ret (.int ((a + j : Nat) : Int))) ⟨l', H.set t (.list ((bs.set (a + j) true).map V.bool))⟩
    | none => ∃ l', forV (fun _ => True) (setV "slot") (b_Shelf_take_1 sn) (rangeL a r.length) ⟨l, H⟩ = .ok .next ⟨l', H⟩)
  | [], a, l, _, _ => ⟨l, rfl⟩
  | b :: r, a, l, h1, e => by
    have hg : bs[a]? = some b := by
      have : (bs.drop a)[0]? = some b := by rw [e]; rfl
      simpa using this
    have hr : bs.drop (a + 1) = r := by rw [← List.drop_drop, e]; rfl
    have hlt : a < bs.length := (List.getElem?_eq_some_iff.mp hg).1
    have e1 : ((a : Int) + 1) = ((a + 1 : Nat) : Int) := by push_cast; rfl
    have hi : ∀ l, itemV sn (.ref t) (.int a) ⟨l, H⟩ = .ok (.bool b) ⟨l, H⟩ := fun l => r_item_bool sn hS.ls (by omega) (by omega) (by simpa using hg)
    cases b with
    | false =>
      have hs : ∀ l, setItemV (.ref t) (.int a) (.bool true) ⟨l, H⟩ = .ok () ⟨l, H.set t (.list ((bs.set a true).map V.bool))⟩ := fun l => r_setitem_bool hS.ls (by omega) (by omega) (by omega)
      refine ⟨upd l "slot" (.int a), ?_⟩
      rw [List.length_cons, rangeL]
      refine forV_ret ?_
      simp [b_Shelf_take_1, r_bnd, r_set, r_get, upd_same, upd_ne, h1, r_attr, hS.ob, sf_taken, hi, r_truth, r_pur, r_seq, hs]
    | true =>
      have ht : ((setV "slot" (.int a)).bnd fun _ => b_Shelf_take_1 sn) ⟨l, H⟩ = .ok .next ⟨upd l "slot" (.int a), H⟩ := by
        simp [b_Shelf_take_1, r_bnd, r_set, r_get, upd_same, upd_ne, h1, r_attr, hS.ob, sf_taken, hi, r_truth, r_pur]
      have ih := take_loop r (a + 1) (upd l "slot" (.int a)) (by simpa [upd] using h1) hr
      rw [firstF]
      cases hf : firstF r with
      | none =>
        rw [hf] at ih
        obtain ⟨l', ih⟩ := ih
        exact ⟨l', by rw [List.length_cons, rangeL, forV_next ht trivial, e1]; exact ih⟩
      | some j =>
        rw [hf] at ih
        obtain ⟨l', ih⟩ := ih
        refine ⟨l', ?_⟩
        rw [List.length_cons, rangeL, forV_next ht trivial, e1, ih, show a + 1 + j = a + (j + 1) by omega]

theorem v_take : f_Shelf_take sn [.inst "Shelf" i] H = match firstF bs with
    | some j => .ok (.int j) (H.set t (.list ((bs.set j true).map V.bool)))
    | none => .exc "NoRoom" H := by
  have hl : ∀ l, lenV sn [.ref t] ⟨l, H⟩ = .ok (.int bs.length) ⟨l, H⟩ := fun l => by rw [r_len_list sn hS.ls (by simp; omega)]; simp
  have hr : ∀ q, rangeV [.int bs.length] q = .ok ⟨rangeL 0 bs.length, fun _ => True⟩ q := fun q => by rw [r_range1 _ _ ⟨by omega, by omega⟩]; simp
  have h1 : ∀ r, forV (fun _ => True) (setV "slot") (b_Shelf_take_1 sn) (rangeL 0 bs.length) ⟨initL ["self"] [.inst "Shelf" i], H⟩ = r → t_Shelf_take_1 sn ⟨initL ["self"] [.inst "Shelf" i], H⟩ = r := fun r e => by
    have hs : initL ["self"] [.inst "Shelf" i] "self" = some (.inst "Shelf" i) := by simp [initL, upd]
    simp only [t_Shelf_take_1, r_bnd, r_get, hs, r_attr, hS.ob, sf_taken, r_pur, hl, hr]
    exact e
  have L := take_loop sn hS hb bs 0 (initL ["self"] [.inst "Shelf" i]) (by simp [initL, upd]) (by simp)
  cases hf : firstF bs with
  | none =>
    rw [hf] at L
    obtain ⟨l', L⟩ := L
    exact fn_exc (m := m_Shelf_take sn) (q := ⟨l', H⟩) rfl (seq_at (h1 _ L) (by simp [t_Shelf_take_2, r_bnd, r_pur, r_raise]))
  | some j =>
    rw [hf] at L
    obtain ⟨l', L⟩ := L
    simp only [Nat.zero_add] at L
    exact fn_ret (m := m_Shelf_take sn) rfl (seq_ret (h1 _ L))

theorem v_has (k : Int) : f_Shelf_has sn [.inst "Shelf" i, .int k] H = .ok (.bool (goodB bs k)) H := by
  have hl : ∀ l, lenV sn [.ref t] ⟨l, H⟩ = .ok (.int bs.length) ⟨l, H⟩ := fun l => by rw [r_len_list sn hS.ls (by simp; omega)]; simp
  by_cases h0 : 0 ≤ k
  · by_cases h1 : k < bs.length
    · have hlt : k.toNat < bs.length := by omega
      have hg : bs[k.toNat]? = some bs[k.toNat] := List.getElem?_eq_getElem hlt
      have hi : ∀ l, itemV sn (.ref t) (.int k) ⟨l, H⟩ = .ok (.bool bs[k.toNat]) ⟨l, H⟩ := fun l => r_item_bool sn hS.ls h0 (by omega) hg
      have e : goodB bs k = bs[k.toNat] := by unfold goodB; rw [if_pos ⟨h0, h1⟩, hg]; rfl
      rw [e]
      simp [f_Shelf_has, m_Shelf_has, t_Shelf_has_1, r_fn, r_bnd, r_get, initL, upd, r_pur, cmpV, h0, h1, r_attr, hS.ob, sf_taken, hl, r_truth, r_ite, hi]
    · have e : goodB bs k = false := if_neg fun h => h1 h.2
      rw [e]
      simp [f_Shelf_has, m_Shelf_has, t_Shelf_has_1, r_fn, r_bnd, r_get, initL, upd, r_pur, cmpV, h0, h1, r_attr, hS.ob, sf_taken, hl, r_truth, r_ite]
  · have e : goodB bs k = false := if_neg fun h => h0 h.1
    rw [e]
    simp [f_Shelf_has, m_Shelf_has, t_Shelf_has_1, r_fn, r_bnd, r_get, initL, upd, r_pur, cmpV, h0, r_truth, r_ite]

theorem v_give (k : Int) : f_Shelf_give sn [.inst "Shelf" i, .int k] H = if goodB bs k then .ok .none (H.set t (.list ((bs.set k.toNat false).map V.bool))) else .exc "NotOut" H := by
  have hh := v_has sn hS hb k
  obtain ⟨l0, e0, a1, a2⟩ : ∃ l0, initL ["self", "slot"] [.inst "Shelf" i, .int k] = l0 ∧ l0 "self" = some (.inst "Shelf" i) ∧ l0 "slot" = some (.int k) := ⟨_, rfl, by simp [initL, upd], by simp [initL, upd]⟩
  cases hg : goodB bs k with
  | false =>
    rw [hg] at hh
    refine fn_exc (m := m_Shelf_give sn) (q := ⟨l0, H⟩) rfl (seq_exc ?_)
    rw [e0]
    simp [t_Shelf_give_1, r_bnd, r_get, a1, a2, r_meth, hS.ob, sf_has, r_pur, r_call, hh, r_truth, r_raise]
  | true =>
    rw [hg] at hh
    have hk : 0 ≤ k ∧ k < bs.length := by
      unfold goodB at hg
      split at hg
      · assumption
      · cases hg
    have hs : setItemV (.ref t) (.int k) (.bool false) ⟨l0, H⟩ = .ok () ⟨l0, H.set t (.list ((bs.set k.toNat false).map V.bool))⟩ := r_setitem_bool hS.ls hk.1 (by omega) hk.2
    refine fn_next (m := m_Shelf_give sn) (q := ⟨l0, H.set t (.list ((bs.set k.toNat false).map V.bool))⟩) rfl (seq_at (q' := ⟨l0, H⟩) ?_ ?_)
    · rw [e0]; simp [t_Shelf_give_1, r_bnd, r_get, a1, a2, r_meth, hS.ob, sf_has, r_pur, r_call, hh, r_truth]
    · simp [t_Shelf_give_2, r_bnd, r_get, a1, a2, r_attr, hS.ob, sf_taken, r_pur, hs]

theorem v_free : f_Shelf_free sn [.inst "Shelf" i] H = .ok (.ref H.length) (H ++ [.list ((frees 0 bs).map V.int)]) := by
  obtain ⟨l0, e0, a1⟩ : ∃ l0, initL ["self"] [.inst "Shelf" i] = l0 ∧ l0 "self" = some (.inst "Shelf" i) := ⟨_, rfl, by simp [initL, upd]⟩
  have hit : itemsOf sn (.ref t) H = some (bs.map V.bool) := by simp [itemsOf, hS.ls]
  have hc : c_Shelf_free_1 sn ⟨l0, H⟩ = .ok (.ref H.length) ⟨l0, H ++ [.list ((frees 0 bs).map V.int)]⟩ := by
    refine compM_run (it := ⟨enumL 0 (bs.map V.bool), fun H => itemsOf sn (.ref t) H = some (bs.map V.bool)⟩) (H1 := H) ?_ (by rw [enumL_length]; simp; omega) ?_
    · simp only [r_bnd, r_get, a1, r_attr, hS.ob, sf_taken, r_pur, enumV, hit]
    · rw [← enum_frees]
      refine compF_run hit phiE _ fun x hx => ?_
      obtain ⟨j, b, rfl⟩ := enum_mem _ _ _ hx
      have h1 : set2V "slot" "one" (.tup [.int j, .bool b]) ⟨res [] l0, H⟩ = .ok () ⟨upd (upd (res [] l0) "slot" (.int j)) "one" (.bool b), H⟩ := rfl
      cases b with
      | false => exact compStep_yes (H2 := H) (H3 := H) h1 (by simp [r_bnd, r_get, upd, r_truth, r_pur]) (by simp [r_get, upd])
      | true => exact compStep_no h1 (by simp [r_bnd, r_get, upd, r_truth, r_pur])
  refine fn_ret (m := m_Shelf_free sn) (q := ⟨l0, _⟩) rfl ?_
  rw [e0]
  simp [m_Shelf_free, t_Shelf_free_1, r_bnd, hc, r_pur]

theorem v_out : f_Shelf_out sn [.inst "Shelf" i] H = .ok (.int (bs.count true)) (H ++ [.list (List.replicate (bs.count true) (V.bool true))]) := by
  obtain ⟨l0, e0, a1⟩ : ∃ l0, initL ["self"] [.inst "Shelf" i] = l0 ∧ l0 "self" = some (.inst "Shelf" i) := ⟨_, rfl, by simp [initL, upd]⟩
  have hit : itemsOf sn (.ref t) H = some (bs.map V.bool) := by simp [itemsOf, hS.ls]
  have hcl : bs.count true ≤ bs.length := List.count_le_length
  have hc : c_Shelf_out_1 sn ⟨l0, H⟩ = .ok (.ref H.length) ⟨l0, H ++ [.list (List.replicate (bs.count true) (V.bool true))]⟩ := by
    refine compM_run (it := ⟨bs.map V.bool, fun H => itemsOf sn (.ref t) H = some (bs.map V.bool)⟩) (H1 := H) ?_ (by simp; omega) ?_
    · simp only [r_bnd, r_get, a1, r_attr, hS.ob, sf_taken, r_itOf, hit]
    · rw [← map_trues]
      refine compF_run hit phiB _ fun x hx => ?_
      obtain ⟨b, _, rfl⟩ := List.mem_map.mp hx
      have h1 : setV "one" (.bool b) ⟨res [] l0, H⟩ = .ok () ⟨upd (res [] l0) "one" (.bool b), H⟩ := rfl
      cases b with
      | true => exact compStep_yes (H2 := H) (H3 := H) h1 (by simp [r_bnd, r_get, upd, r_truth, r_pur]) (by simp [r_get, upd])
      | false => exact compStep_no h1 (by simp [r_bnd, r_get, upd, r_truth, r_pur])
  have hl : lenV sn [.ref H.length] ⟨l0, H ++ [.list (List.replicate (bs.count true) (V.bool true))]⟩ = .ok (.int (bs.count true)) ⟨l0, H ++ [.list (List.replicate (bs.count true) (V.bool true))]⟩ := by
    rw [r_len_list sn (xs := List.replicate (bs.count true) (V.bool true)) (by simp) (by simp; omega)]; simp
  refine fn_ret (m := m_Shelf_out sn) (q := ⟨l0, _⟩) rfl ?_
  rw [e0]
  simp only [m_Shelf_out, t_Shelf_out_1, r_bnd, hc, r_pur, hl]

theorem v_taken : f_law_taken sn [.inst "Shelf" i] H = match firstF bs with
    | some j => .ok (.int j) (H.set t (.list ((bs.set j true).map V.bool)))
    | none => .ok (.int (-1)) H := by
  have hh := v_take sn hS hb
  obtain ⟨l0, e0, a1⟩ : ∃ l0, initL ["_law_shelf"] [.inst "Shelf" i] = l0 ∧ l0 "_law_shelf" = some (.inst "Shelf" i) := ⟨_, rfl, by simp [initL, upd]⟩
  cases hf : firstF bs with
  | none =>
    rw [hf] at hh
    refine fn_ret (m := m_law_taken sn) (q := ⟨l0, H⟩) rfl ?_
    rw [e0]
    simp [m_law_taken, t_law_taken_1, r_try, r_bnd, r_get, a1, r_meth, hS.ob, sf_take, r_pur, r_call, hh, negV]
  | some j =>
    rw [hf] at hh
    refine fn_ret (m := m_law_taken sn) (q := ⟨l0, H.set t (.list ((bs.set j true).map V.bool))⟩) rfl ?_
    rw [e0]
    simp [m_law_taken, t_law_taken_1, r_try, r_bnd, r_get, a1, r_meth, hS.ob, sf_take, r_pur, r_call, hh]

theorem v_given (k : Int) : f_law_given sn [.inst "Shelf" i, .int k] H = if goodB bs k then .ok (.bool true) (H.set t (.list ((bs.set k.toNat false).map V.bool))) else .ok (.bool false) H := by
  have hh := v_give sn hS hb k
  obtain ⟨l0, e0, a1, a2⟩ : ∃ l0, initL ["_law_shelf", "_law_slot"] [.inst "Shelf" i, .int k] = l0 ∧ l0 "_law_shelf" = some (.inst "Shelf" i) ∧ l0 "_law_slot" = some (.int k) := ⟨_, rfl, by simp [initL, upd], by simp [initL, upd]⟩
  cases hg : goodB bs k with
  | false =>
    rw [hg] at hh
    refine fn_ret (m := m_law_given sn) (q := ⟨l0, H⟩) rfl ?_
    rw [e0]
    simp [m_law_given, t_law_given_1, r_try, r_bnd, r_get, a1, a2, r_meth, hS.ob, sf_give, r_pur, r_call, hh]
  | true =>
    rw [hg] at hh
    refine fn_ret (m := m_law_given sn) (q := ⟨l0, H.set t (.list ((bs.set k.toNat false).map V.bool))⟩) rfl ?_
    rw [e0]
    simp [m_law_given, t_law_given_1, r_try, r_bnd, r_get, a1, a2, r_meth, hS.ob, sf_give, r_pur, r_call, hh, cmpV, isNone]

theorem v_deed {r : Nat} (hr : H[r]? = some (.list (bs.map V.bool))) (hrt : r ≠ t) (c : Int) :
    ∃ bs' : List Bool, bs'.length = bs.length ∧ f_law_deed sn [.inst "Shelf" i, .ref r, .int c] H = .ok (.bool true) ((H.set t (.list (bs'.map V.bool))).set r (.list (bs'.map V.bool))) := by
  obtain ⟨l0, e0, a1, a2, a3⟩ : ∃ l0, initL ["_law_shelf", "_law_row", "_law_cell"] [.inst "Shelf" i, .ref r, .int c] = l0 ∧ l0 "_law_shelf" = some (.inst "Shelf" i) ∧ l0 "_law_row" = some (.ref r) ∧ l0 "_law_cell" = some (.int c) :=
    ⟨_, rfl, by simp [initL, upd], by simp [initL, upd], by simp [initL, upd]⟩
  have htk := v_taken sn hS hb
  have hlen : ∀ l, lenV sn [.ref r] ⟨l, H⟩ = .ok (.int bs.length) ⟨l, H⟩ := fun l => by rw [r_len_list sn hr (by simp; omega)]; simp
  by_cases hc : c.fmod 2 = 0
  · cases hf : firstF bs with
    | none =>
      rw [hf] at htk
      refine ⟨bs, rfl, ?_⟩
      rw [set_same hS.ls, set_same hr]
      refine fn_ret (m := m_law_deed sn) (q := ⟨upd (upd l0 "_law_slot" (.int (-1))) "_law_due" (.int (-1)), H⟩) rfl (seq_ret ?_)
      have hin : ∀ l, inV (.bool false) (.ref r) ⟨l, H⟩ = .ok false ⟨l, H⟩ := fun l => by rw [r_in_false hr, hf]; rfl
      rw [e0]
      simp [t_law_deed_1, r_bnd, r_get, r_set, r_seq, r_pur, a1, a2, a3, modV, cmpV, r_eq_int, hc, r_call, htk, negV, upd_same, upd_ne, hin, v_lwhole_int, r_truth]
    | some j =>
      rw [hf] at htk
      dsimp only at htk
      obtain ⟨hj, _⟩ := firstF_some hf
      refine ⟨bs.set j true, by simp, ?_⟩
      have hr' : (H.set t (.list ((bs.set j true).map V.bool)))[r]? = some (.list (bs.map V.bool)) := by rw [List.getElem?_set_ne (Ne.symm hrt)]; exact hr
      have hin : ∀ l, inV (.bool false) (.ref r) ⟨l, H.set t (.list ((bs.set j true).map V.bool))⟩ = .ok true ⟨l, H.set t (.list ((bs.set j true).map V.bool))⟩ := fun l => by rw [r_in_false hr', hf]; rfl
      have hix : ∀ l, indexV (.ref r) (.bool false) ⟨l, H.set t (.list ((bs.set j true).map V.bool))⟩ = .ok (.int j) ⟨l, H.set t (.list ((bs.set j true).map V.bool))⟩ := fun l => r_index_false hr' hb hf
      have hst : ∀ l, setItemV (.ref r) (.int j) (.bool true) ⟨l, H.set t (.list ((bs.set j true).map V.bool))⟩ = .ok () ⟨l, (H.set t (.list ((bs.set j true).map V.bool))).set r (.list ((bs.set j true).map V.bool))⟩ := fun l => by
        rw [r_setitem_bool hr' (by omega) (by omega) (by omega)]; simp
      generalize hH1 : H.set t (.list ((bs.set j true).map V.bool)) = H1 at htk hr' hin hix hst
      have hkd : ∀ l, kindV (.ref r) ⟨l, H1⟩ = .ok true ⟨l, H1⟩ := fun l => by rw [r_kind, hr']
      refine fn_ret (m := m_law_deed sn) (q := ⟨upd (upd (upd l0 "_law_slot" (.int j)) "_law_due" (.int (-1))) "_law_due" (.int j), H1.set r (.list ((bs.set j true).map V.bool))⟩) rfl (seq_ret ?_)
      rw [e0]
      simp [t_law_deed_1, r_bnd, r_get, r_set, r_seq, r_pur, a1, a2, a3, modV, cmpV, r_eq_int, hc, r_call, htk, negV, upd_same, upd_ne, hin, v_lwhole_int, r_truth, hkd, hix, hst]
  · obtain ⟨k, hk⟩ : ∃ k, (c.fdiv 2).fmod ((bs.length : Int) + 5) - 2 = k := ⟨_, rfl⟩
    have h5 : (bs.length : Int) + 5 ≠ 0 := by omega
    have s1 : t_law_deed_1 sn ⟨l0, H⟩ = .ok .next ⟨l0, H⟩ := by simp [t_law_deed_1, r_bnd, r_get, r_pur, a3, modV, cmpV, r_eq_int, hc]
    have s2 : t_law_deed_2 sn ⟨l0, H⟩ = .ok .next ⟨upd l0 "_law_slot" (.int k), H⟩ := by
      simp [t_law_deed_2, r_bnd, r_get, r_set, r_pur, a2, a3, divV, hlen, addV, modV, h5, subV, hk]
    have s3 : t_law_deed_3 sn ⟨upd l0 "_law_slot" (.int k), H⟩ = .ok .next ⟨upd (upd l0 "_law_slot" (.int k)) "_law_good" (.bool (goodB bs k)), H⟩ := by
      by_cases h0 : 0 ≤ k
      · by_cases h1 : k < bs.length
        · have hlt : k.toNat < bs.length := by omega
          have hg : bs[k.toNat]? = some bs[k.toNat] := List.getElem?_eq_getElem hlt
          have hi : ∀ l, itemV sn (.ref r) (.int k) ⟨l, H⟩ = .ok (.bool bs[k.toNat]) ⟨l, H⟩ := fun l => r_item_bool sn hr h0 (by omega) hg
          have e : goodB bs k = bs[k.toNat] := by unfold goodB; rw [if_pos ⟨h0, h1⟩, hg]; rfl
          rw [e]
          simp [t_law_deed_3, r_bnd, r_get, r_set, r_pur, upd_same, upd_ne, a2, cmpV, h0, h1, hlen, r_truth, hi]
        · have e : goodB bs k = false := if_neg fun h => h1 h.2
          rw [e]
          simp [t_law_deed_3, r_bnd, r_get, r_set, r_pur, upd_same, upd_ne, a2, cmpV, h0, h1, hlen, r_truth]
      · have e : goodB bs k = false := if_neg fun h => h0 h.1
        rw [e]
        simp [t_law_deed_3, r_bnd, r_get, r_set, r_pur, upd_same, upd_ne, a2, cmpV, h0, r_truth]
    cases hg : goodB bs k with
    | false =>
      rw [hg] at s3
      have hgv := v_given sn hS hb k
      rw [hg] at hgv
      refine ⟨bs, rfl, ?_⟩
      rw [set_same hS.ls, set_same hr]
      refine fn_ret (m := m_law_deed sn) (q := ⟨upd (upd l0 "_law_slot" (.int k)) "_law_good" (.bool false), H⟩) rfl ?_
      rw [e0]
      refine seq_at s1 (seq_at s2 (seq_at s3 (seq_at (q' := ⟨upd (upd l0 "_law_slot" (.int k)) "_law_good" (.bool false), H⟩) ?_ ?_)))
      · simp [t_law_deed_4, r_bnd, r_get, r_pur, upd_same, r_truth]
      · simp [t_law_deed_5, r_bnd, r_get, r_pur, upd_same, upd_ne, a1, r_call, hgv, cmpV, r_eq_bool]
    | true =>
      rw [hg] at s3
      have hkk : 0 ≤ k ∧ k < bs.length := by
        unfold goodB at hg
        split at hg
        · assumption
        · cases hg
      have hst : ∀ l, setItemV (.ref r) (.int k) (.bool false) ⟨l, H⟩ = .ok () ⟨l, H.set r (.list ((bs.set k.toNat false).map V.bool))⟩ := fun l => r_setitem_bool hr hkk.1 (by omega) hkk.2
      have hne : i ≠ r := fun e => by have := hS.ob; rw [e, hr] at this; cases this
      have hS' : IsShelf (H.set r (.list ((bs.set k.toNat false).map V.bool))) i t p z bs := ⟨by rw [List.getElem?_set_ne (Ne.symm hne)]; exact hS.ob, by rw [List.getElem?_set_ne hrt]; exact hS.ls⟩
      have hgv := v_given sn hS' hb k
      rw [hg, if_pos rfl] at hgv
      refine ⟨bs.set k.toNat false, by simp, ?_⟩
      rw [List.set_comm _ _ (Ne.symm hrt)]
      refine fn_ret (m := m_law_deed sn) (q := ⟨upd (upd l0 "_law_slot" (.int k)) "_law_good" (.bool true), (H.set r (.list ((bs.set k.toNat false).map V.bool))).set t (.list ((bs.set k.toNat false).map V.bool))⟩) rfl ?_
      rw [e0]
      refine seq_at s1 (seq_at s2 (seq_at s3 (seq_at (q' := ⟨upd (upd l0 "_law_slot" (.int k)) "_law_good" (.bool true), H.set r (.list ((bs.set k.toNat false).map V.bool))⟩) ?_ ?_)))
      · simp [t_law_deed_4, r_bnd, r_get, r_pur, upd_same, upd_ne, a2, r_truth, hst]
      · simp [-List.map_set, t_law_deed_5, r_bnd, r_get, r_pur, upd_same, upd_ne, a1, r_call, hgv, cmpV, r_eq_bool]
end

/-- what was kept: nothing, or a list and its copy -/
def KvOk (H : Hp) (N : Nat) (kv : List V) : Prop := kv = [] ∨ ∃ (x y : Nat) (fs : List Int), kv = [.tup [.ref x, .ref y]] ∧ N ≤ x ∧ N ≤ y ∧ H[x]? = some (.list (fs.map V.int)) ∧ H[y]? = some (.list (fs.map V.int))

theorem v_stands_kept {k N : Nat} {kv : List V} (hk : H[k]? = some (.list kv)) (hkv : KvOk H N kv) (l : Loc) (hl : l "_law_kept" = some (.ref k)) :
    ∃ l', t_law_stands_1 sn ⟨l, H⟩ = .ok .next ⟨l', H⟩ ∧ ∀ x, x ≠ "_law_one" → x ≠ "_law_copy" → l' x = l x := by
  have hit : itemsOf sn (.ref k) H = some kv := by simp [itemsOf, hk]
  have h1 : ∀ r, forV (fun H => itemsOf sn (.ref k) H = some kv) (set2V "_law_one" "_law_copy") (b_law_stands_1 sn) kv ⟨l, H⟩ = r → t_law_stands_1 sn ⟨l, H⟩ = r := fun r e => by
    simp only [t_law_stands_1, r_bnd, r_get, hl, r_itOf, hit]; exact e
  rcases hkv with rfl | ⟨x, y, fs, rfl, _, _, hx, hy⟩
  · exact ⟨l, h1 _ rfl, fun _ _ _ => rfl⟩
  · have e0 : ∀ l, eqV (.ref x) (.ref y) ⟨l, H⟩ = .ok true ⟨l, H⟩ := fun l => by rw [r_eq_ints (q := ⟨l, H⟩) hx hy]; simp
    refine ⟨upd (upd l "_law_one" (.ref x)) "_law_copy" (.ref y), h1 _ ?_, fun z hz1 hz2 => by simp [upd, hz1, hz2]⟩
    rw [forV_next (q' := ⟨upd (upd l "_law_one" (.ref x)) "_law_copy" (.ref y), H⟩) ?_ hit]
    · rfl
    · have : set2V "_law_one" "_law_copy" (.tup [.ref x, .ref y]) ⟨l, H⟩ = .ok () ⟨upd (upd l "_law_one" (.ref x)) "_law_copy" (.ref y), H⟩ := rfl
      simp [r_bnd, this, b_law_stands_1, r_get, upd_same, upd_ne, cmpV, e0, r_pur]

theorem v_slots_loop (j : Nat) (l0 : Loc) (fs : List Int) (zs : List V) (hj : itemsOf sn (.ref j) H = some zs) : ∀ (fs : List Int) (l : Loc), ∃ l', forV (fun H => itemsOf sn (.ref j) H = some zs) (setV "_law_slot") (b_law_stands_2 sn) (fs.map V.int) ⟨l, H⟩ = .ok .next ⟨l', H⟩ ∧ ∀ x, x ≠ "_law_slot" → l' x = l x
  | [], l => ⟨l, rfl, fun _ _ => rfl⟩
  | f :: fs, l => by
    have ht : ((setV "_law_slot" (.int f)).bnd fun _ => b_law_stands_2 sn) ⟨l, H⟩ = .ok .next ⟨upd l "_law_slot" (.int f), H⟩ := by
      simp [r_bnd, r_set, b_law_stands_2, r_get, upd_same, r_pur, r_call, v_lwhole_int, r_truth]
    obtain ⟨l', h1, h2⟩ := v_slots_loop j l0 fs zs hj fs (upd l "_law_slot" (.int f))
    exact ⟨l', by rw [List.map_cons, forV_next ht hj]; exact h1, fun x hx => by rw [h2 x hx]; simp [upd, hx]⟩

theorem v_stands {i t r k N : Nat} {p z : Int} {bs : List Bool} {kv : List V} (hS : IsShelf H i t p z bs) (hb : bs.length ≤ 1000) (hr : H[r]? = some (.list (bs.map V.bool))) (hk : H[k]? = some (.list kv)) (hkv : KvOk H N kv) (hkt : k ≠ t) (hkr : k ≠ r)
    (hN : N ≤ H.length) (hkl : kv.length ≤ 1000) : ∃ kv' T, f_law_stands sn [.inst "Shelf" i, .ref r, .ref k] H = .ok (.bool true) (H.set k (.list kv') ++ T) ∧ KvOk (H.set k (.list kv') ++ T) N kv' ∧ kv'.length ≤ 1000 := by
  obtain ⟨F, hF⟩ : ∃ F, frees 0 bs = F := ⟨_, rfl⟩
  have hFl : F.length + bs.count true = bs.length := by rw [← hF]; exact frees_len bs 0
  have hkL : k < H.length := (List.getElem?_eq_some_iff.mp hk).1
  have hki : k ≠ i := fun e => by rw [e, hS.ob] at hk; cases hk
  have fin : ∀ (r : Nat) (T : Hp) {o : O}, H[r]? = some o → (H ++ T)[r]? = some o := fun r T o e => pre_get ⟨_, rfl⟩ e
  have SA : ∀ T, IsShelf (H ++ T) i t p z bs := fun T => ⟨fin i T hS.ob, fin t T hS.ls⟩
  have SK : ∀ kv' T, IsShelf (H.set k (.list kv') ++ T) i t p z bs := fun kv' T => ⟨pre_get ⟨_, rfl⟩ (by rw [List.getElem?_set_ne hki]; exact hS.ob), pre_get ⟨_, rfl⟩ (by rw [List.getElem?_set_ne hkt]; exact hS.ls)⟩
  obtain ⟨l0, e0, a1, a2, a3⟩ : ∃ l0, initL ["_law_shelf", "_law_row", "_law_kept"] [.inst "Shelf" i, .ref r, .ref k] = l0 ∧ l0 "_law_shelf" = some (.inst "Shelf" i) ∧ l0 "_law_row" = some (.ref r) ∧ l0 "_law_kept" = some (.ref k) :=
    ⟨_, rfl, by simp [initL, upd], by simp [initL, upd], by simp [initL, upd]⟩
  obtain ⟨l1, s1, c1⟩ := v_stands_kept sn H hk hkv l0 a3
  have b1 : l1 "_law_shelf" = some (.inst "Shelf" i) := by rw [c1 _ (by decide) (by decide)]; exact a1
  have b2 : l1 "_law_row" = some (.ref r) := by rw [c1 _ (by decide) (by decide)]; exact a2
  have b3 : l1 "_law_kept" = some (.ref k) := by rw [c1 _ (by decide) (by decide)]; exact a3
  have hlen : ∀ l T, lenV sn [.ref r] ⟨l, H ++ T⟩ = .ok (.int bs.length) ⟨l, H ++ T⟩ := fun l T => by rw [r_len_list sn (fin r T hr) (by simp; omega)]; simp
  have hlen0 : ∀ l, lenV sn [.ref r] ⟨l, H⟩ = .ok (.int bs.length) ⟨l, H⟩ := fun l => by rw [r_len_list sn hr (by simp; omega)]; simp
  have hrg : ∀ q, rangeV [.int bs.length] q = .ok ⟨rangeL 0 bs.length, fun _ => True⟩ q := fun q => by rw [r_range1 _ _ ⟨by omega, by omega⟩]; simp
  have sc : c_law_stands_1 sn ⟨l1, H⟩ = .ok (.ref H.length) ⟨l1, H ++ [.list (F.map V.int)]⟩ := by
    refine compM_run (it := ⟨rangeL 0 bs.length, fun _ => True⟩) (H1 := H) ?_ (by rw [rangeL_length]; omega) ?_
    · simp only [r_bnd, r_get, b2, r_pur, hlen0, hrg]
    · let φ : V → Option V := fun v => match v with | .int j => if (bs[j.toNat]?).getD true then none else some (.int j) | _ => none
      have hφ : (rangeL 0 bs.length).filterMap φ = F.map V.int := by
        rw [← hF]
        refine range_frees bs φ (fun j b e => ?_) bs 0 (by simp)
        show (if (bs[((j : Nat) : Int).toNat]?).getD true then none else some (V.int j)) = _
        simp [e]
      rw [← hφ]
      refine compF_run trivial φ _ fun x hx => ?_
      obtain ⟨n, hn⟩ := List.mem_iff_getElem?.mp hx
      obtain ⟨rfl, hlt⟩ := rangeL_get _ _ _ _ hn
      have hg : bs[n]? = some bs[n] := List.getElem?_eq_getElem hlt
      have hi : ∀ l, itemV sn (.ref r) (.int (0 + (n : Int))) ⟨l, H⟩ = .ok (.bool bs[n]) ⟨l, H⟩ := fun l => r_item_bool sn hr (by omega) (by omega) (by simp [hg])
      have h1 : setV "_law_slot" (.int (0 + (n : Int))) ⟨res ["_law_row"] l1, H⟩ = .ok () ⟨upd (res ["_law_row"] l1) "_law_slot" (.int (0 + (n : Int))), H⟩ := rfl
      have hrow : upd (res ["_law_row"] l1) "_law_slot" (.int (0 + (n : Int))) "_law_row" = some (.ref r) := by rw [upd_ne _ _ (by decide), res_get (by simp)]; exact b2
      have eφ : φ (.int (0 + (n : Int))) = if bs[n] then none else some (.int (0 + (n : Int))) := by
        show (if (bs[((0 : Int) + (n : Int)).toNat]?).getD true then none else some (V.int (0 + (n : Int)))) = _
        rw [show ((0 : Int) + (n : Int)).toNat = n by omega, hg]; rfl
      rw [eφ]
      cases hbn : bs[n] with
      | false =>
        rw [hbn] at hi
        exact compStep_yes (H2 := H) (H3 := H) h1 (by simp only [r_bnd, r_get, hrow, upd_same, hi, r_truth, r_pur, Bool.not_false]) (by simp only [r_get, upd_same])
      | true =>
        rw [hbn] at hi
        exact compStep_no h1 (by simp only [r_bnd, r_get, hrow, upd_same, hi, r_truth, r_pur, Bool.not_true])
  have s2 : t_law_stands_2 sn ⟨l1, H⟩ = .ok .next ⟨upd l1 "_law_free" (.ref H.length), H ++ [.list (F.map V.int)]⟩ := by simp only [t_law_stands_2, r_bnd, sc, r_set, r_pur]
  obtain ⟨l2, el2⟩ : ∃ l2, upd l1 "_law_free" (.ref H.length) = l2 := ⟨_, rfl⟩
  rw [el2] at s2
  have d1 : l2 "_law_shelf" = some (.inst "Shelf" i) := by rw [← el2]; simpa [upd] using b1
  have d2 : l2 "_law_row" = some (.ref r) := by rw [← el2]; simpa [upd] using b2
  have d3 : l2 "_law_kept" = some (.ref k) := by rw [← el2]; simpa [upd] using b3
  have d4 : l2 "_law_free" = some (.ref H.length) := by rw [← el2]; simp [upd]
  have f1 := v_free sn (SA [.list (F.map V.int)]) hb
  rw [hF] at f1
  have s3 : t_law_stands_3 sn ⟨l2, H ++ [.list (F.map V.int)]⟩ = .ok .next ⟨upd l2 "_law_found" (.ref (H.length + 1)), H ++ [.list (F.map V.int), .list (F.map V.int)]⟩ := by
    simp [t_law_stands_3, r_bnd, r_get, d1, r_meth, (SA [.list (F.map V.int)]).ob, sf_free, r_pur, r_call, f1, r_set]
  obtain ⟨n, hn⟩ : ∃ n, bs.count true = n := ⟨_, rfl⟩
  have f2 := v_out sn (SA [.list (F.map V.int), .list (F.map V.int)]) hb
  rw [hn] at f2
  obtain ⟨Bt, hBt⟩ : ∃ Bt, O.list (List.replicate n (V.bool true)) = Bt := ⟨_, rfl⟩
  rw [hBt] at f2
  have s4 : t_law_stands_4 sn ⟨upd l2 "_law_found" (.ref (H.length + 1)), H ++ [.list (F.map V.int), .list (F.map V.int)]⟩ = .ok .next ⟨upd (upd l2 "_law_found" (.ref (H.length + 1))) "_law_many" (.int n), H ++ [.list (F.map V.int), .list (F.map V.int), Bt]⟩ := by
    simp [t_law_stands_4, r_bnd, r_get, upd_ne, d1, r_meth, (SA [.list (F.map V.int), .list (F.map V.int)]).ob, sf_out, r_pur, r_call, f2, r_set]
  obtain ⟨l3, el3⟩ : ∃ l3, upd (upd l2 "_law_found" (.ref (H.length + 1))) "_law_many" (.int n) = l3 := ⟨_, rfl⟩
  rw [el3] at s4
  have g1 : l3 "_law_shelf" = some (.inst "Shelf" i) := by rw [← el3]; simpa [upd] using d1
  have g2 : l3 "_law_row" = some (.ref r) := by rw [← el3]; simpa [upd] using d2
  have g3 : l3 "_law_kept" = some (.ref k) := by rw [← el3]; simpa [upd] using d3
  have g4 : l3 "_law_free" = some (.ref H.length) := by rw [← el3]; simpa [upd] using d4
  have g5 : l3 "_law_found" = some (.ref (H.length + 1)) := by rw [← el3]; simp [upd]
  have g6 : l3 "_law_many" = some (.int n) := by rw [← el3]; simp [upd]
  have hFl2 : F.length < 1000000 := by omega
  obtain ⟨H3, eH3⟩ : ∃ H3, H ++ [.list (F.map V.int), .list (F.map V.int), Bt] = H3 := ⟨_, rfl⟩
  have x0 : H3[H.length]? = some (.list (F.map V.int)) := by rw [← eH3]; simp
  have x1 : H3[H.length + 1]? = some (.list (F.map V.int)) := by rw [← eH3]; simp
  have xl : ∀ l, lenV sn [.ref H.length] ⟨l, H3⟩ = .ok (.int F.length) ⟨l, H3⟩ := fun l => by rw [r_len_list sn x0 (by simp; omega)]; simp
  have xr : ∀ l, lenV sn [.ref r] ⟨l, H3⟩ = .ok (.int bs.length) ⟨l, H3⟩ := fun l => by rw [← eH3]; exact hlen l _
  have hnn : (n : Int) = bs.length - F.length := by omega
  have s5 : t_law_stands_5 sn ⟨l3, H3⟩ = .ok .next ⟨l3, H3⟩ := by
    simp [t_law_stands_5, r_bnd, r_get, g2, g4, g5, g6, r_isi, tyOf, x1, r_truth, r_pur, r_call, v_lwhole_int, xl, xr, subV, cmpV, r_eq_int, hnn]
  have it1 : itemsOf sn (.ref (H.length + 1)) H3 = some (F.map V.int) := by simp [itemsOf, x1]
  obtain ⟨l4, q6, c6⟩ := v_slots_loop sn H3 (H.length + 1) l3 F _ it1 F l3
  have s6 : t_law_stands_6 sn ⟨l3, H3⟩ = .ok .next ⟨l4, H3⟩ := by simp only [t_law_stands_6, r_bnd, r_get, g5, r_itOf, it1]; exact q6
  have k1 : l4 "_law_shelf" = some (.inst "Shelf" i) := by rw [c6 _ (by decide)]; exact g1
  have k2 : l4 "_law_row" = some (.ref r) := by rw [c6 _ (by decide)]; exact g2
  have k3 : l4 "_law_kept" = some (.ref k) := by rw [c6 _ (by decide)]; exact g3
  have k4 : l4 "_law_free" = some (.ref H.length) := by rw [c6 _ (by decide)]; exact g4
  have k5 : l4 "_law_found" = some (.ref (H.length + 1)) := by rw [c6 _ (by decide)]; exact g5
  have e7 : eqV (.ref (H.length + 1)) (.ref H.length) ⟨l4, H3⟩ = .ok true ⟨l4, H3⟩ := by rw [r_eq_ints (q := ⟨l4, H3⟩) x1 x0]; simp
  have s7 : t_law_stands_7 sn ⟨l4, H3⟩ = .ok .next ⟨l4, H3⟩ := by simp [t_law_stands_7, r_bnd, r_get, k4, k5, cmpV, e7, r_pur]
  have xk : H3[k]? = some (.list kv) := by rw [← eH3]; exact fin k _ hk
  have hset : ∀ o, H3.set k o = H.set k o ++ [.list (F.map V.int), .list (F.map V.int), Bt] := fun o => by rw [← eH3, List.set_append_left _ _ hkL]
  have s8 : t_law_stands_8 sn ⟨l4, H3⟩ = .ok .next ⟨l4, H3.set k (.list [])⟩ := by
    have hkl' : kv.length ≤ 1000000 := by omega
    simp [t_law_stands_8, r_bnd, r_get, k3, r_kind, xk, meth0V, hkl', r_pur]
  have hL3 : H3.length = H.length + 3 := by rw [← eH3]; simp
  have y1 : (H3.set k (.list []))[H.length + 1]? = some (.list (F.map V.int)) := by rw [List.getElem?_set_ne (by omega)]; exact x1
  have it2 : itemsOf sn (.ref (H.length + 1)) (H3.set k (.list [])) = some (F.map V.int) := by simp [itemsOf, y1]
  have yk : (H3.set k (.list []))[k]? = some (.list []) := by rw [List.getElem?_set_self (by omega)]
  obtain ⟨H4, eH4⟩ : ∃ H4, H.set k (.list [.tup [.ref (H.length + 1), .ref (H.length + 3)]]) ++ [.list (F.map V.int), .list (F.map V.int), Bt, .list (F.map V.int)] = H4 := ⟨_, rfl⟩
  have s9 : t_law_stands_9 sn ⟨l4, H3.set k (.list [])⟩ = .ok .next ⟨l4, H4⟩ := by
    have z1 : listOfV sn [.ref (H.length + 1)] ⟨l4, H3.set k (.list [])⟩ = .ok (.ref (H.length + 3)) ⟨l4, H3.set k (.list []) ++ [.list (F.map V.int)]⟩ := by
      rw [r_listOf sn l4 _ it2 (by simp; omega), List.length_set, hL3]
    have z2 : appendV (.ref k) (.tup [.ref (H.length + 1), .ref (H.length + 3)]) ⟨l4, H3.set k (.list []) ++ [.list (F.map V.int)]⟩ = .ok .none ⟨l4, H4⟩ := by
      rw [r_append (xs := []) _ _ _ (pre_get ⟨_, rfl⟩ yk) (by simp), List.set_append_left _ _ (by rw [List.length_set, hL3]; omega), List.set_set, hset, ← eH4]
      simp
    simp [t_law_stands_9, r_bnd, r_get, k3, k5, r_kind, yk, r_pur, z1, newT, z2]
  have S4 : IsShelf H4 i t p z bs := by rw [← eH4]; exact SK _ _
  have L4 : H4.length = H.length + 4 := by rw [← eH4]; simp
  have f3 := v_free sn S4 hb
  rw [hF, L4] at f3
  have s10 : t_law_stands_10 sn ⟨l4, H4⟩ = .ok .next ⟨upd l4 "_law_later" (.ref (H.length + 4)), H4 ++ [.list (F.map V.int)]⟩ := by
    simp [t_law_stands_10, r_bnd, r_get, k1, r_meth, S4.ob, sf_free, r_pur, r_call, f3, r_set]
  have hr4 : H4[r]? = some (.list (bs.map V.bool)) := by rw [← eH4]; exact pre_get ⟨_, rfl⟩ (by rw [List.getElem?_set_ne hkr]; exact hr)
  have x4 : (H4 ++ [.list (F.map V.int)])[H.length + 4]? = some (.list (F.map V.int)) := by rw [← L4]; simp
  have s11 : t_law_stands_11 sn ⟨upd l4 "_law_later" (.ref (H.length + 4)), H4 ++ [.list (F.map V.int)]⟩ = .ok .next ⟨upd l4 "_law_later" (.ref (H.length + 4)), H4 ++ [.list (F.map V.int ++ [.int bs.length])]⟩ := by
    have z1 : ∀ l, lenV sn [.ref r] ⟨l, H4 ++ [.list (F.map V.int)]⟩ = .ok (.int bs.length) ⟨l, H4 ++ [.list (F.map V.int)]⟩ := fun l => by rw [r_len_list sn (pre_get ⟨_, rfl⟩ hr4) (by simp; omega)]; simp
    have z2 : ∀ l, appendV (.ref (H.length + 4)) (.int bs.length) ⟨l, H4 ++ [.list (F.map V.int)]⟩ = .ok .none ⟨l, H4 ++ [.list (F.map V.int ++ [.int bs.length])]⟩ := fun l => by
      rw [r_append _ _ _ x4 (by simp; omega), ← L4]; simp
    simp [t_law_stands_11, r_bnd, r_get, upd_same, upd_ne, k2, r_kind, x4, r_pur, z1, z2]
  have S5 : IsShelf (H4 ++ [.list (F.map V.int ++ [.int bs.length])]) i t p z bs := ⟨pre_get ⟨_, rfl⟩ S4.ob, pre_get ⟨_, rfl⟩ S4.ls⟩
  have f4 := v_free sn S5 hb
  rw [hF] at f4
  have L5 : (H4 ++ [O.list (F.map V.int ++ [.int bs.length])]).length = H.length + 5 := by rw [List.length_append, L4]; rfl
  rw [L5] at f4
  obtain ⟨H6, eH6⟩ : ∃ H6, H4 ++ [O.list (F.map V.int ++ [.int bs.length])] ++ [.list (F.map V.int)] = H6 := ⟨_, rfl⟩
  rw [eH6] at f4
  have w5 : H6[H.length + 5]? = some (.list (F.map V.int)) := by rw [← eH6, ← L5]; simp
  have w0 : H6[H.length]? = some (.list (F.map V.int)) := by
    rw [← eH6, ← eH4]
    exact pre_get ⟨_, rfl⟩ (pre_get ⟨_, rfl⟩ (by rw [List.getElem?_append_right (by simp)]; simp))
  have e12 : ∀ l, eqV (.ref (H.length + 5)) (.ref H.length) ⟨l, H6⟩ = .ok true ⟨l, H6⟩ := fun l => by rw [r_eq_ints (q := ⟨l, H6⟩) w5 w0]; simp
  have s12 : t_law_stands_12 sn ⟨upd l4 "_law_later" (.ref (H.length + 4)), H4 ++ [.list (F.map V.int ++ [.int bs.length])]⟩ = .ok (.ret (.bool true)) ⟨upd l4 "_law_later" (.ref (H.length + 4)), H6⟩ := by
    simp [t_law_stands_12, r_bnd, r_get, upd_ne, k1, k4, r_meth, S5.ob, sf_free, r_pur, r_call, f4, cmpV, e12]
  refine ⟨[.tup [.ref (H.length + 1), .ref (H.length + 3)]], [.list (F.map V.int), .list (F.map V.int), Bt, .list (F.map V.int), .list (F.map V.int ++ [.int bs.length]), .list (F.map V.int)], ?_, ?_, by simp⟩
  · have e6 : H6 = H.set k (.list [.tup [.ref (H.length + 1), .ref (H.length + 3)]]) ++ [.list (F.map V.int), .list (F.map V.int), Bt, .list (F.map V.int), .list (F.map V.int ++ [.int bs.length]), .list (F.map V.int)] := by rw [← eH6, ← eH4]; simp
    rw [← e6]
    rw [eH3] at s4
    refine fn_ret (m := m_law_stands sn) (q := ⟨upd l4 "_law_later" (.ref (H.length + 4)), H6⟩) rfl ?_
    rw [e0]
    exact seq_at s1 (seq_at s2 (seq_at s3 (seq_at s4 (seq_at s5 (seq_at s6 (seq_at s7 (seq_at s8 (seq_at s9 (seq_at s10 (seq_at s11 s12))))))))))
  · refine .inr ⟨H.length + 1, H.length + 3, F, rfl, by omega, by omega, ?_, ?_⟩
    · rw [List.getElem?_append_right (by simp)]; simp
    · rw [List.getElem?_append_right (by simp)]; simp

/-! ### the law -/
def base (p z : Int) (n : Nat) (bs : List Bool) (kv sc : List V) : Hp :=
  [.flds (shelfF p z 2), .list [.bool false], .list (bs.map V.bool), .flds (shelfF p z 5), .list [.bool false], .list ((true :: List.replicate (n - 1) false).map V.bool), .list [.bool false], .list (bs.map V.bool), .list kv, .list sc]

structure LL (l : Loc) (p z n : Int) : Prop where
  shelf : l "_law_shelf" = some (.inst "Shelf" 0)
  other : l "_law_other" = some (.inst "Shelf" 3)
  row : l "_law_row" = some (.ref 7)
  kept : l "_law_kept" = some (.ref 8)
  page : l "_law_page" = some (.int p)
  size : l "_law_size" = some (.int z)
  slots : l "_law_slots" = some (.int n)
theorem LL.upd {l : Loc} {p z n : Int} (h : LL l p z n) (v : V) : LL (upd l "_law_cell" v) p z n := by
  constructor <;> rw [upd_ne _ _ (by decide)]
  · exact h.shelf
  · exact h.other
  · exact h.row
  · exact h.kept
  · exact h.page
  · exact h.size
  · exact h.slots

def LoopI (p z : Int) (n : Nat) (sc : List V) (rem : List V) (q : S) : Prop := ∃ bs kv T, q.H = base p z n bs kv sc ++ T ∧ bs.length = n ∧ KvOk q.H 10 kv ∧ kv.length ≤ 1000 ∧ LL q.l p z n ∧ ∀ v ∈ rem, ∃ c, v = V.int c

theorem v_loop (p z : Int) (n : Nat) (hn : n ≤ 60) (sc : List V) : ∀ xs q, LoopI p z n sc xs q → ∃ q', forV (fun H => itemsOf sn (.ref 9) H = some sc) (setV "_law_cell") (b_law_1 sn) xs q = .ok .next q' ∧ LoopI p z n sc [] q' := by
  refine forV_ind (LoopI p z n sc) fun x rem q hI => ?_
  obtain ⟨bs, kv, T, h1, h2, h3, h4, h5, h6⟩ := hI
  obtain ⟨l, HH⟩ := q
  dsimp only at h1 h3 h5
  obtain ⟨c, rfl⟩ := h6 x (.head _)
  subst h1
  have hb : bs.length ≤ 1000 := by omega
  have S0 : IsShelf (base p z n bs kv sc ++ T) 0 2 p z bs := ⟨rfl, rfl⟩
  obtain ⟨bs', hl', hd⟩ := v_deed sn S0 hb (r := 7) rfl (by decide) c
  have e1 : ((base p z n bs kv sc ++ T).set 2 (.list (bs'.map V.bool))).set 7 (.list (bs'.map V.bool)) = base p z n bs' kv sc ++ T := rfl
  rw [e1] at hd
  have hb' : bs'.length ≤ 1000 := by omega
  have S1 : IsShelf (base p z n bs' kv sc ++ T) 0 2 p z bs' := ⟨rfl, rfl⟩
  have kv1 : KvOk (base p z n bs' kv sc ++ T) 10 kv := by
    rcases h3 with h3 | ⟨x, y, fs, a1, a2, a3, a4, a5⟩
    · exact .inl h3
    · refine .inr ⟨x, y, fs, a1, a2, a3, ?_, ?_⟩
      · rw [List.getElem?_append_right (by exact a2)] at a4 ⊢; exact a4
      · rw [List.getElem?_append_right (by exact a3)] at a5 ⊢; exact a5
  obtain ⟨kv', T', hs, hk', hkl'⟩ := v_stands sn (base p z n bs' kv sc ++ T) S1 hb' (r := 7) (k := 8) (N := 10) rfl rfl kv1 (by decide) (by decide) (by rw [List.length_append]; exact Nat.le_add_right 10 _) h4
  have e2 : (base p z n bs' kv sc ++ T).set 8 (.list kv') ++ T' = base p z n bs' kv' sc ++ (T ++ T') := by
    have : (base p z n bs' kv sc ++ T).set 8 (.list kv') = base p z n bs' kv' sc ++ T := rfl
    rw [this, List.append_assoc]
  rw [e2] at hs hk'
  refine ⟨⟨upd l "_law_cell" (.int c), base p z n bs' kv' sc ++ (T ++ T')⟩, ?_, rfl, bs', kv', T ++ T', rfl, by omega, hk', hkl', h5.upd _, fun v hv => h6 v (.tail _ hv)⟩
  have A := h5.upd (.int c)
  simp only [r_bnd, r_set, b_law_1, r_get, A.shelf, A.row, A.kept, upd_same, r_pur, r_call, hd, hs, r_truth, Bool.not_true, Bool.false_eq_true, if_false]

theorem law03_value (hsn : sn.length ≤ 1000) : ∃ H', f_law sn [.scr] [] = .ok (.bool true) H' := by
  obtain ⟨c0, hc0⟩ := v_cell sn [] 0 (by omega) (by omega)
  obtain ⟨c1, hc1⟩ := v_cell sn [] 1 (by omega) (by omega)
  obtain ⟨c2, hc2⟩ := v_cell sn [] 2 (by omega) (by omega)
  obtain ⟨l0, e0, a0⟩ : ∃ l0, initL ["_law_script"] [.scr] = l0 ∧ l0 "_law_script" = some .scr := ⟨_, rfl, by simp [initL, upd]⟩
  obtain ⟨p, hp⟩ : ∃ p, c0.fmod 40 = p := ⟨_, rfl⟩
  obtain ⟨z, hz⟩ : ∃ z, 1 + c1.fmod 60 = z := ⟨_, rfl⟩
  suffices hm : Rt (m_law sn) ⟨l0, []⟩ (fun v _ => v = .bool true) by
    obtain ⟨v, q, h1, rfl⟩ := hm
    exact ⟨q.H, fn_ret (m := m_law sn) rfl (by rw [e0]; exact h1)⟩
  refine seq_rt (P := fun q => q = ⟨upd l0 "_law_page" (.int p), []⟩) (Nx.of (by simp [t_law_1, r_bnd, r_get, a0, r_pur, r_call, hc0, modV, hp, r_set]) rfl) ?_
  rintro _ rfl
  refine seq_rt (P := fun q => q = ⟨upd (upd l0 "_law_page" (.int p)) "_law_size" (.int z), []⟩) (Nx.of (by simp [t_law_2, r_bnd, r_get, upd_ne, a0, r_pur, r_call, hc1, modV, addV, hz, r_set]) rfl) ?_
  rintro _ rfl
  obtain ⟨m1, m2⟩ := fmod_range c2 9 (by omega)
  refine seq_rt (P := fun q => q = ⟨upd (upd (upd l0 "_law_page" (.int p)) "_law_size" (.int z)) "_law_slots" (.int (1 + c2.fmod 9)), []⟩) (Nx.of (by simp [t_law_3, r_bnd, r_get, upd_ne, a0, r_pur, r_call, hc2, modV, addV, r_set]) rfl) ?_
  rintro _ rfl
  refine seq_rt (P := fun q => ∃ n : Int, 1 ≤ n ∧ n ≤ 60 ∧ q.H = [] ∧ q.l "_law_script" = some .scr ∧ q.l "_law_page" = some (.int p) ∧ q.l "_law_size" = some (.int z) ∧ q.l "_law_slots" = some (.int n)) ?_ ?_
  · by_cases h8 : (c2.fdiv 9).fmod 8 = 1
    · obtain ⟨m3, m4⟩ := fmod_range (c2.fdiv 72) 60 (by omega)
      refine Nx.of (q' := ⟨upd (upd (upd (upd l0 "_law_page" (.int p)) "_law_size" (.int z)) "_law_slots" (.int (1 + c2.fmod 9))) "_law_slots" (.int (1 + (c2.fdiv 72).fmod 60)), []⟩) ?_ ⟨1 + (c2.fdiv 72).fmod 60, by omega, by omega, rfl, by simpa [upd] using a0, by simp [upd], by simp [upd], by simp [upd]⟩
      simp [t_law_4, r_bnd, r_get, upd_ne, a0, r_pur, r_call, hc2, modV, divV, addV, cmpV, r_eq_int, h8, r_set]
    · refine Nx.of (q' := ⟨upd (upd (upd l0 "_law_page" (.int p)) "_law_size" (.int z)) "_law_slots" (.int (1 + c2.fmod 9)), []⟩) ?_ ⟨1 + c2.fmod 9, by omega, by omega, rfl, by simpa [upd] using a0, by simp [upd], by simp [upd], by simp [upd]⟩
      simp [t_law_4, r_bnd, r_get, upd_ne, a0, r_pur, r_call, hc2, modV, divV, addV, cmpV, r_eq_int, h8, r_set]
  rintro ⟨l, HH⟩ ⟨n, hn1, hn2, hH, b0, b1, b2, b3⟩
  dsimp only at hH b0 b1 b2 b3
  subst hH
  obtain ⟨k, rfl⟩ : ∃ k : Nat, n = k := ⟨n.toNat, by omega⟩
  have hk : 1 ≤ k ∧ k ≤ 60 := by omega
  obtain ⟨R, hR⟩ : ∃ R, List.replicate k false = R := ⟨_, rfl⟩
  have hRl : R.length = k := by rw [← hR]; simp
  have hRc : R = false :: List.replicate (k - 1) false := by rw [← hR, ← List.replicate_succ]; congr 1; omega
  have mk1 := v_make sn [] p z k ⟨by omega, by omega⟩ l
  rw [show ((k : Int)).toNat = k by omega, hR] at mk1
  simp only [List.nil_append, List.length_nil, Nat.zero_add] at mk1
  refine seq_rt (P := fun q => q = ⟨upd l "_law_shelf" (.inst "Shelf" 0), [.flds (shelfF p z 2), .list [.bool false], .list (R.map V.bool)]⟩) (Nx.of (by simp only [t_law_5, r_bnd, r_get, b1, b2, b3, r_pur, mk1, r_set]) rfl) ?_
  rintro _ rfl
  have mk2 := v_make sn [.flds (shelfF p z 2), .list [.bool false], .list (R.map V.bool)] p z k ⟨by omega, by omega⟩ (upd l "_law_shelf" (.inst "Shelf" 0))
  rw [show ((k : Int)).toNat = k by omega, hR] at mk2
  simp only [List.length_cons, List.length_nil, Nat.zero_add, Nat.reduceAdd, List.cons_append, List.nil_append] at mk2
  refine seq_rt (P := fun q => q = ⟨upd (upd l "_law_shelf" (.inst "Shelf" 0)) "_law_other" (.inst "Shelf" 3), [.flds (shelfF p z 2), .list [.bool false], .list (R.map V.bool), .flds (shelfF p z 5), .list [.bool false], .list (R.map V.bool)]⟩)
    (Nx.of (by simp only [t_law_6, r_bnd, r_get, upd_ne _ _ (show "_law_page" ≠ "_law_shelf" by decide), upd_ne _ _ (show "_law_size" ≠ "_law_shelf" by decide), upd_ne _ _ (show "_law_slots" ≠ "_law_shelf" by decide), b1, b2, b3, r_pur, mk2, r_set]) rfl) ?_
  rintro _ rfl
  have tk := v_take sn (H := [.flds (shelfF p z 2), .list [.bool false], .list (R.map V.bool), .flds (shelfF p z 5), .list [.bool false], .list (R.map V.bool)]) (i := 3) (t := 5) (p := p) (z := z) (bs := R) ⟨rfl, rfl⟩ (by omega)
  have hf : firstF R = some 0 := by rw [hRc]; rfl
  rw [hf] at tk
  dsimp only at tk
  have hset : R.set 0 true = true :: List.replicate (k - 1) false := by rw [hRc]; rfl
  rw [hset] at tk
  obtain ⟨O5, hO5⟩ : ∃ O5, O.list ((true :: List.replicate (k - 1) false).map V.bool) = O5 := ⟨_, rfl⟩
  rw [hO5] at tk
  simp only [List.set_cons_succ, List.set_cons_zero] at tk
  obtain ⟨l6, el6⟩ : ∃ l6, upd (upd l "_law_shelf" (.inst "Shelf" 0)) "_law_other" (.inst "Shelf" 3) = l6 := ⟨_, rfl⟩
  rw [el6]
  have d0 : l6 "_law_script" = some .scr := by rw [← el6]; simpa [upd] using b0
  have d1 : l6 "_law_page" = some (.int p) := by rw [← el6]; simpa [upd] using b1
  have d2 : l6 "_law_size" = some (.int z) := by rw [← el6]; simpa [upd] using b2
  have d3 : l6 "_law_slots" = some (.int k) := by rw [← el6]; simpa [upd] using b3
  have d4 : l6 "_law_shelf" = some (.inst "Shelf" 0) := by rw [← el6]; simp [upd]
  have d5 : l6 "_law_other" = some (.inst "Shelf" 3) := by rw [← el6]; simp [upd]
  refine seq_rt (P := fun q => q = ⟨l6, [.flds (shelfF p z 2), .list [.bool false], .list (R.map V.bool), .flds (shelfF p z 5), .list [.bool false], O5]⟩) (Nx.of ?_ rfl) ?_
  · have hm : methV "Shelf" "take" (.inst "Shelf" 3) ⟨l6, [.flds (shelfF p z 2), .list [.bool false], .list (R.map V.bool), .flds (shelfF p z 5), .list [.bool false], .list (R.map V.bool)]⟩ = .ok () ⟨l6, [.flds (shelfF p z 2), .list [.bool false], .list (R.map V.bool), .flds (shelfF p z 5), .list [.bool false], .list (R.map V.bool)]⟩ := by
      simp [r_meth, sf_take]
    simp only [t_law_7, r_bnd, r_get, d5, hm, r_pur, r_call, tk, cmpV, r_eq_int]
    simp [r_pur]
  rintro _ rfl
  have hmul : mulV (.ref 6) (.int k) ⟨l6, [.flds (shelfF p z 2), .list [.bool false], .list (R.map V.bool), .flds (shelfF p z 5), .list [.bool false], O5, .list [.bool false]]⟩ =
      .ok (.ref 7) ⟨l6, [.flds (shelfF p z 2), .list [.bool false], .list (R.map V.bool), .flds (shelfF p z 5), .list [.bool false], O5, .list [.bool false], .list (R.map V.bool)]⟩ := by
    have h6 : (k : Int) ≤ 1000000 := by omega
    simp [mulV, h6, ← hR]
  refine seq_rt (P := fun q => q = ⟨upd l6 "_law_row" (.ref 7), [.flds (shelfF p z 2), .list [.bool false], .list (R.map V.bool), .flds (shelfF p z 5), .list [.bool false], O5, .list [.bool false], .list (R.map V.bool)]⟩) (Nx.of ?_ rfl) ?_
  · have hnew : newL [.bool false] ⟨l6, [.flds (shelfF p z 2), .list [.bool false], .list (R.map V.bool), .flds (shelfF p z 5), .list [.bool false], O5]⟩ = .ok (.ref 6) ⟨l6, [.flds (shelfF p z 2), .list [.bool false], .list (R.map V.bool), .flds (shelfF p z 5), .list [.bool false], O5, .list [.bool false]]⟩ := by simp [r_newL]
    simp only [t_law_8, r_bnd, r_pur, hnew, r_get, d3, hmul, r_set]
  rintro _ rfl
  refine seq_rt (P := fun q => q = ⟨upd (upd l6 "_law_row" (.ref 7)) "_law_kept" (.ref 8), [.flds (shelfF p z 2), .list [.bool false], .list (R.map V.bool), .flds (shelfF p z 5), .list [.bool false], O5, .list [.bool false], .list (R.map V.bool), .list []]⟩) (Nx.of ?_ rfl) ?_
  · simp [t_law_9, r_bnd, r_pur, r_newL, r_set]
  rintro _ rfl
  obtain ⟨l7, el7⟩ : ∃ l7, upd (upd l6 "_law_row" (.ref 7)) "_law_kept" (.ref 8) = l7 := ⟨_, rfl⟩
  rw [el7]
  have A : LL l7 p z k := by
    rw [← el7]
    constructor
    · simpa [upd] using d4
    · simpa [upd] using d5
    · simp [upd]
    · simp [upd]
    · simpa [upd] using d1
    · simpa [upd] using d2
    · simpa [upd] using d3
  have f0 : l7 "_law_script" = some .scr := by rw [← el7]; simpa [upd] using d0
  obtain ⟨sc, hsc⟩ : ∃ sc, (sn.map V.int).drop 3 = sc := ⟨_, rfl⟩
  have hlen : sn.length ≤ 1000000 := by omega
  have hdrop : dropV sn .scr (.int 3) ⟨l7, [.flds (shelfF p z 2), .list [.bool false], .list (R.map V.bool), .flds (shelfF p z 5), .list [.bool false], O5, .list [.bool false], .list (R.map V.bool), .list []]⟩ =
      .ok (.ref 9) ⟨l7, base p z k R [] sc⟩ := by
    simp [dropV, itemsOf, hlen, ← hO5, base, ← hsc]
  have hit : itemsOf sn (.ref 9) (base p z k R [] sc) = some sc := rfl
  obtain ⟨⟨l8, H8⟩, hq, bs, kv, T, g1, g2, g3, g4, g5, _⟩ := v_loop sn p z k hk.2 sc sc ⟨l7, base p z k R [] sc⟩ ⟨R, [], [], by simp, hRl, .inl rfl, by simp, A, fun v hv => by
    rw [← hsc] at hv
    obtain ⟨c, _, rfl⟩ := List.mem_map.mp (List.mem_of_mem_drop hv)
    exact ⟨c, rfl⟩⟩
  dsimp only at g1 g3 g5
  subst g1
  refine seq_rt (P := fun q => q = ⟨l8, base p z k bs kv sc ++ T⟩) (Nx.of ?_ rfl) ?_
  · simp only [t_law_10, r_bnd, r_get, f0, r_pur, hdrop, r_itOf, hit]; exact hq
  rintro _ rfl
  refine seq_rt (P := fun q => q = ⟨l8, base p z k bs kv sc ++ T⟩) (Nx.of ?_ rfl) ?_
  · have h0 : (base p z k bs kv sc ++ T)[0]? = some (.flds (shelfF p z 2)) := rfl
    simp [t_law_11, r_bnd, r_get, g5.shelf, g5.page, g5.size, r_attr, h0, sf_page, sf_size, r_pur, r_call, v_lwhole_int, r_truth, cmpV, r_eq_int]
  rintro _ rfl
  obtain ⟨kv', T', hs, hk', hkl'⟩ := v_stands sn (base p z k bs kv sc ++ T) (i := 0) (t := 2) (r := 7) (k := 8) (N := 10) (p := p) (z := z) (bs := bs) ⟨rfl, rfl⟩ (by omega) rfl rfl g3 (by decide) (by decide) (by rw [List.length_append]; exact Nat.le_add_right 10 _) g4
  obtain ⟨HH, eHH⟩ : ∃ HH, (base p z k bs kv sc ++ T).set 8 (.list kv') ++ T' = HH := ⟨_, rfl⟩
  have eHH' : HH = base p z k bs kv' sc ++ (T ++ T') := by
    rw [← eHH]
    have : (base p z k bs kv sc ++ T).set 8 (.list kv') = base p z k bs kv' sc ++ T := rfl
    rw [this, List.append_assoc]
  rw [eHH] at hs
  have o3 : HH[3]? = some (.flds (shelfF p z 5)) := by rw [eHH']; rfl
  have o5 : HH[5]? = some (.list ((true :: List.replicate (k - 1) false).map V.bool)) := by rw [eHH']; rfl
  have hL5 : 5 < HH.length := (List.getElem?_eq_some_iff.mp o5).1
  obtain ⟨W, hW⟩ : ∃ W, (true :: List.replicate (k - 1) false) = W := ⟨_, rfl⟩
  rw [hW] at o5
  have hWl : W.length = k := by rw [← hW]; simp; omega
  obtain ⟨HF, eHF⟩ : ∃ HF, HH ++ [.list [.bool true], .list [.bool false], .list ((List.replicate (k - 1) false).map V.bool), .list (W.map V.bool), .list []] = HF := ⟨_, rfl⟩
  obtain ⟨kv2, T2, hs2, _, _⟩ := v_stands sn HF (i := 3) (t := 5) (r := HH.length + 3) (k := HH.length + 4) (N := 0) (p := p) (z := z) (bs := W) (kv := []) ⟨by rw [← eHF]; exact pre_get ⟨_, rfl⟩ o3, by rw [← eHF]; exact pre_get ⟨_, rfl⟩ o5⟩ (by omega)
    (by rw [← eHF]; simp) (by rw [← eHF]; simp) (.inl rfl) (by omega) (by omega) (Nat.zero_le _) (by simp)
  have hmul2 : mulV (.ref (HH.length + 1)) (.int ((k : Int) - 1)) ⟨l8, HH ++ [.list [.bool true], .list [.bool false]]⟩ = .ok (.ref (HH.length + 2)) ⟨l8, HH ++ [.list [.bool true], .list [.bool false], .list ((List.replicate (k - 1) false).map V.bool)]⟩ := by
    have h6 : 0 ≤ (k : Int) - 1 ∧ (k : Int) - 1 ≤ 1000000 := by omega
    have h7 : ((k : Int) - 1).toNat = k - 1 := by omega
    have x1 : (HH ++ [O.list [.bool true], .list [.bool false]])[HH.length + 1]? = some (.list [.bool false]) := by simp
    simp only [mulV, x1, h7]
    rw [if_pos ⟨rfl, h6⟩]
    simp
  have hadd2 : addV (.ref HH.length) (.ref (HH.length + 2)) ⟨l8, HH ++ [.list [.bool true], .list [.bool false], .list ((List.replicate (k - 1) false).map V.bool)]⟩ = .ok (.ref (HH.length + 3)) ⟨l8, HH ++ [.list [.bool true], .list [.bool false], .list ((List.replicate (k - 1) false).map V.bool), .list (W.map V.bool)]⟩ := by
    have x1 : (HH ++ [O.list [.bool true], .list [.bool false], .list ((List.replicate (k - 1) false).map V.bool)])[HH.length]? = some (.list [.bool true]) := by simp
    have x2 : (HH ++ [O.list [.bool true], .list [.bool false], .list ((List.replicate (k - 1) false).map V.bool)])[HH.length + 2]? = some (.list ((List.replicate (k - 1) false).map V.bool)) := by simp
    simp only [addV, x1, x2]
    rw [if_pos (by simp; omega), ← hW]
    simp
  have n1 : newL [.bool true] ⟨l8, HH⟩ = .ok (.ref HH.length) ⟨l8, HH ++ [.list [.bool true]]⟩ := by simp [r_newL]
  have n2 : newL [.bool false] ⟨l8, HH ++ [.list [.bool true]]⟩ = .ok (.ref (HH.length + 1)) ⟨l8, HH ++ [.list [.bool true], .list [.bool false]]⟩ := by simp [r_newL]
  have n3 : newL [] ⟨l8, HH ++ [.list [.bool true], .list [.bool false], .list ((List.replicate (k - 1) false).map V.bool), .list (W.map V.bool)]⟩ = .ok (.ref (HH.length + 4)) ⟨l8, HF⟩ := by rw [← eHF]; simp [r_newL]
  refine Rt.of (v := .bool true) (q' := ⟨l8, HF.set (HH.length + 4) (.list kv2) ++ T2⟩) ?_ rfl
  simp only [t_law_12, r_bnd, r_get, g5.shelf, g5.other, g5.row, g5.kept, g5.slots, r_pur, r_call, hs, r_truth, if_true, n1, n2, subV, hmul2, hadd2, n3, hs2]
end
end Mine

open PySem PySem.W PyProof.Rows
set_option Elab.async false
set_option maxRecDepth 100000
set_option maxHeartbeats 8000000
theorem PySem.Challenge.cw_uf060003_03_holds : PySem.Challenge.rw_uf060003_03.Holds := by
  refine hd03 ?_
  intro w s₀ s₁ mg mb G Y fa o pm cd doc dV kV ho hd hcd hD hmg hg args vals as hpre hlay hrd hwl hlo
  have KX := kIn_of Y
  refine Ground.open G ?_
  intro T B D TE TW
  clear hd hcd hD ho
  wrow_args hpre hlay hrd hwl hlo
  rename_i sn _ _ _ _ _ _ _ sa sv _ hL _ _ _ hI _ hlen _
  have hfa : fa = 164 := by
    have h1 : nsIn (hd03.heap_39 w.params) mainGlobals (Str.ofString "law") = some (some (.ref 164)) := by kernel_rfl
    have h2 := mg_of KX T.g h1
    have h3 : mg (Str.ofString "law") = some (.ref fa) := hmg
    rw [h2] at h3; injection h3 with h3; injection h3 with h3; exact h3.symm
  subst hfa
  have C : Mine.CxOk (Mine.Gx w s₁.heap s₁.os mg mb sa sv sn) := ⟨KX, T.g, T.b, T.builtins, T.nolimit, T.seer (by decide +kernel), rfl, hL, hI, by show sn.length ≤ 63; omega⟩
  refine enter_call (Mine.run_of C (Mine.s_law C) (by decide) rfl rfl hg (Mine.law03_value sn (by omega)) fun s' hk hos hgn => GoodW.toG ⟨.inl ⟨.bool true, .bool true, [], rfl, fun cls => rfl, .bool true, by kernel_rfl, fun _ => ⟨List.nodup_nil, nofun⟩⟩, hk, hos, hgn⟩)

