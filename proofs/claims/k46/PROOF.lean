import PyProof.Rows.All
import HandS.ForMost
import HandS.ForExc
import HandS.Walk
import HandS.Wide
import HandS.TupAny
import HandS.TupMul
import HandS.Deep
import HandS.Style
import HandS.Flow
import HandS.IsInst
import HandS.More
import KE.GoesNew
import HandS.Ends
import PySem.Challenge.RW_loomhouse_k46_whole_shapes_of_knitting
set_option Elab.async false
set_option linter.all false
set_option maxRecDepth 100000
set_option autoImplicit false
set_option maxHeartbeats 4000000
/-! Dn: Python values as plain data, and what a piece of syntax computes as a plain function over them. -/
namespace Dn
open PySem PySem.Spec L2
open PyProof.Rows hiding St

/-- a Python value as plain data: fl: a list that nobody here may write (the script, a list of the module's top) -/
inductive D where
  | non | bl (b : Bool) | int (i : Int) | str (x : Str) | ty (n : String) | fn (x : Str)
  | tup (xs : List D) | lst (xs : List D) | fl (xs : List D) | dct (k : Nat) (ks vs : List D)

structure Md where
  K : PySem.W.Frag
  mg : Str → Option Value
  w : World

def keyD : Key → D
  | .inl i => .int i
  | .inr x => .str x
/-- a list that stands still -/
def FrL (K : PySem.W.Frag) (H : Hp) (a : Addr) (vs : List V) : Prop :=
  (∃ o, H a = some (.frz o (.lst vs))) ∨ ∃ (o : Obj) (its : Array Value) (n : Nat), K.lookup a = some o ∧ o.cls = .type "list" ∧ o.dict = none ∧ o.data = .seq its n ∧ its.size ≤ sizeLine ∧ Vals vs its.toList
theorem FrL.sq {K : PySem.W.Frag} {H : Hp} {a : Addr} {vs : List V} (h : FrL K H a vs) : SqL K H a vs := h.imp (fun ⟨o, h⟩ => .inr ⟨o, h⟩) id
abbrev Fz := Addr → Prop
/-- a dict of the module, its keys texts -/
def KD (M : Md) (a : Addr) (ks : List D) (vs : List V) : Prop :=
  ∃ (es : Array DictEntry) (n : Nat), M.K.lookup a = some ⟨.type "dict", none, .dict es n, #[]⟩ ∧ PySem.W.KeysLit M.w.params es.toList ∧ (a == sysModules) = false ∧
    Paired (fun (e : DictEntry) d => ∃ x t, e.key = .str x t ∧ d = .str x) es.toList ks ∧ Vals vs (es.toList.map (·.val))
mutual
def R (M : Md) (F : Fz) (H : Hp) : D → V → Prop
  | .non, v => v = .non
  | .bl b, v => v = .bl b
  | .int i, v => v = .int i
  | .str x, v => v = .str x
  | .ty n, v => v = .ty n
  | .fn x, v => ∃ a, v = .ref a ∧ M.mg x = some (.ref a)
  | .tup ds, v => ∃ a vs, v = .ref a ∧ SqT M.K H a vs ∧ Rs M F H ds vs
  | .lst ds, v => ∃ a vs, v = .ref a ∧ F a ∧ H a = some (.lst vs) ∧ Rs M F H ds vs
  | .fl ds, v => ∃ a vs, v = .ref a ∧ FrL M.K H a vs ∧ Rs M F H ds vs
  | .dct 0 ks ds, v => ∃ (a : Addr) (kvs : List (Key × V)), v = .ref a ∧ F a ∧ H a = some (.dK kvs) ∧ ks = kvs.map (fun p => keyD p.1) ∧ Rs M F H ds (kvs.map (·.2))
  | .dct 1 ks ds, v => ∃ (a : Addr) (kvs : List (List Key × V)), v = .ref a ∧ F a ∧ H a = some (.dT kvs) ∧ ks = kvs.map (fun p => .tup (p.1.map keyD)) ∧ Rs M F H ds (kvs.map (·.2))
  | .dct 2 ks ds, v => ∃ (a : Addr) (vs : List V), v = .ref a ∧ KD M a ks vs ∧ Rs M F H ds vs
  | .dct _ _ _, _ => False
def Rs (M : Md) (F : Fz) (H : Hp) : List D → List V → Prop
  | [], vs => vs = []
  | d :: ds, vs => ∃ v r, vs = v :: r ∧ R M F H d v ∧ Rs M F H ds r
end

/-- what is frozen, and what can never be written, is kept -/
def Mono (F : Fz) (H H' : Hp) : Prop := ∀ a o, H a = some o → (F a ∨ ¬ Mut (some o)) → H' a = some o
theorem Mono.refl (F : Fz) (H : Hp) : Mono F H H := fun _ _ h _ => h
theorem Mono.of_same {F : Fz} {H H' : Hp} (h : Same H H') : Mono F H H' := fun a o e _ => h a o e
theorem Mono.trans {F F1 : Fz} {H H1 H2 : Hp} (a : Mono F H H1) (le : ∀ x, F x → F1 x) (b : Mono F1 H1 H2) : Mono F H H2 := fun x o e m =>
  b x o (a x o e m) (m.imp (le x) id)

section
variable {M : Md} {F F' : Fz} {H H' : Hp}
theorem SqT.mono {a : Addr} {vs : List V} (m : Mono F H H') (h : SqT M.K H a vs) : SqT M.K H' a vs := by
  rcases h with (h | ⟨o, h⟩) | h
  · exact .inl (.inl (m _ _ h (.inr fun z => z)))
  · exact .inl (.inr ⟨o, m _ _ h (.inr fun z => z)⟩)
  · exact .inr h
mutual
theorem R.mono (m : Mono F H H') (le : ∀ a, F a → F' a) : ∀ (d : D) (v : V), R M F H d v → R M F' H' d v
  | .non, _, h => h
  | .bl _, _, h => h
  | .int _, _, h => h
  | .str _, _, h => h
  | .ty _, _, h => h
  | .fn _, _, h => h
  | .tup ds, v, h => by
    obtain ⟨a, vs, e, t, r⟩ := h
    exact ⟨a, vs, e, SqT.mono m t, Rs.mono m le ds vs r⟩
  | .lst ds, v, h => by
    obtain ⟨a, vs, e, f, t, r⟩ := h
    exact ⟨a, vs, e, le a f, m _ _ t (.inl f), Rs.mono m le ds vs r⟩
  | .fl ds, v, h => by
    obtain ⟨a, vs, e, t, r⟩ := h
    exact ⟨a, vs, e, t.imp (fun ⟨o, t⟩ => ⟨o, m _ _ t (.inr fun z => z)⟩) id, Rs.mono m le ds vs r⟩
  | .dct 0 ks ds, v, h => by
    obtain ⟨a, kvs, e, f, t, k, r⟩ := h
    exact ⟨a, kvs, e, le a f, m _ _ t (.inl f), k, Rs.mono m le ds _ r⟩
  | .dct 1 ks ds, v, h => by
    obtain ⟨a, kvs, e, f, t, k, r⟩ := h
    exact ⟨a, kvs, e, le a f, m _ _ t (.inl f), k, Rs.mono m le ds _ r⟩
  | .dct 2 ks ds, v, h => by
    obtain ⟨a, vs, e, k, r⟩ := h
    exact ⟨a, vs, e, k, Rs.mono m le ds vs r⟩
  | .dct (n + 3) _ _, _, h => h.elim
theorem Rs.mono (m : Mono F H H') (le : ∀ a, F a → F' a) : ∀ (ds : List D) (vs : List V), Rs M F H ds vs → Rs M F' H' ds vs
  | [], _, h => h
  | d :: ds, vs, h => by
    obtain ⟨v, r, e, h1, h2⟩ := h
    exact ⟨v, r, e, R.mono m le d v h1, Rs.mono m le ds r h2⟩
end
end

/-! ### owned objects -/
def OwnAt (M : Md) (F : Fz) (H : Hp) (a : Addr) : D → Prop
  | .lst ds => ∃ vs, H a = some (.lst vs) ∧ Rs M F H ds vs
  | .dct 0 ks ds => ∃ kvs : List (Key × V), H a = some (.dK kvs) ∧ ks = kvs.map (fun p => keyD p.1) ∧ Rs M F H ds (kvs.map (·.2))
  | .dct 1 ks ds => ∃ kvs : List (List Key × V), H a = some (.dT kvs) ∧ ks = kvs.map (fun p => .tup (p.1.map keyD)) ∧ Rs M F H ds (kvs.map (·.2))
  | _ => False
theorem OwnAt.frozen {M : Md} {F : Fz} {H : Hp} {a : Addr} : ∀ {d : D}, OwnAt M F H a d → F a → R M F H d (.ref a)
  | .lst ds, ⟨vs, h, r⟩, f => ⟨a, vs, rfl, f, h, r⟩
  | .dct 0 ks ds, ⟨kvs, h, k, r⟩, f => ⟨a, kvs, rfl, f, h, k, r⟩
  | .dct 1 ks ds, ⟨kvs, h, k, r⟩, f => ⟨a, kvs, rfl, f, h, k, r⟩
theorem OwnAt.there {M : Md} {F : Fz} {H : Hp} {a : Addr} : ∀ {d : D}, OwnAt M F H a d → ∃ o, H a = some o ∧ Mut (some o)
  | .lst ds, ⟨vs, h, r⟩ => ⟨_, h, trivial⟩
  | .dct 0 ks ds, ⟨kvs, h, k, r⟩ => ⟨_, h, trivial⟩
  | .dct 1 ks ds, ⟨kvs, h, k, r⟩ => ⟨_, h, trivial⟩
theorem OwnAt.mono {M : Md} {F F' : Fz} {H H' : Hp} {a : Addr} (m : Mono F H H') (le : ∀ a, F a → F' a) (s : H' a = H a) : ∀ {d : D}, OwnAt M F H a d → OwnAt M F' H' a d
  | .lst ds, ⟨vs, h, r⟩ => ⟨vs, s.trans h, r.mono m le⟩
  | .dct 0 ks ds, ⟨kvs, h, k, r⟩ => ⟨kvs, s.trans h, k, r.mono m le⟩
  | .dct 1 ks ds, ⟨kvs, h, k, r⟩ => ⟨kvs, s.trans h, k, r.mono m le⟩

/-- nothing that stood is changed; only what is new may be frozen -/
structure Fresh (F : Fz) (H : Hp) (F' : Fz) (H' : Hp) : Prop where
  le : ∀ a, F a → F' a
  same : Same H H'
  new : ∀ a, F' a → F a ∨ (H a = none ∧ H' a ≠ none)
section
variable {M : Md} {F F' F1 F2 : Fz} {H H' H1 H2 : Hp}
theorem Same.ne (s : Same H H') {a : Addr} (m : H a ≠ none) : H' a ≠ none := fun e => m (s.free e)
theorem Fresh.refl (F : Fz) (H : Hp) : Fresh F H F H := ⟨fun _ h => h, Same.refl H, fun _ h => .inl h⟩
theorem Fresh.trans (a : Fresh F H F1 H1) (b : Fresh F1 H1 F2 H2) : Fresh F H F2 H2 :=
  ⟨fun x h => b.le x (a.le x h), a.same.trans b.same, fun x h => (b.new x h).elim (fun h => (a.new x h).imp id fun ⟨n, m⟩ => ⟨n, Same.ne b.same m⟩) fun n => .inr ⟨a.same.free n.1, n.2⟩⟩
theorem Fresh.mono (a : Fresh F H F1 H1) : Mono F H H1 := .of_same a.same
theorem R.fr (a : Fresh F H F1 H1) {d : D} {v : V} (h : R M F H d v) : R M F1 H1 d v := h.mono a.mono a.le
theorem Rs.fr (a : Fresh F H F1 H1) {d : List D} {v : List V} (h : Rs M F H d v) : Rs M F1 H1 d v := h.mono a.mono a.le
theorem same_upd {p : Addr} {o : HO} (h : H p = none) : Same H (upd H p o) := fun b x e => by
  rw [upd_ne (ne_of_none e h)]; exact e
/-- a new object, not frozen -/
theorem Fresh.upd {p : Addr} {o : HO} (h : H p = none) : Fresh F H F (upd H p o) := ⟨fun _ h => h, same_upd h, fun _ h => .inl h⟩
/-- a new object is frozen -/
def Fz.add (F : Fz) (p : Addr) : Fz := fun a => F a ∨ a = p
theorem Fresh.add {p : Addr} (fr : Fresh F H F1 H1) (h : H p = none) (h1 : H1 p ≠ none) : Fresh F H (F1.add p) H1 :=
  ⟨fun a x => .inl (fr.le a x), fr.same, fun a x => x.elim (fr.new a) fun e => .inr (e ▸ ⟨h, h1⟩)⟩
/-- only what stands is frozen -/
def Dom (F : Fz) (H : Hp) : Prop := ∀ a, F a → H a ≠ none
theorem Dom.fr (d : Dom F H) (f : Fresh F H F1 H1) : Dom F1 H1 := fun a x => (f.new a x).elim (fun h => Same.ne f.same (d a h)) fun n => n.2

/-- what is handed on: a value, or a new object of one's own -/
def Got (M : Md) (o : Bool) (F' : Fz) (H H' : Hp) (d : D) (v : V) : Prop :=
  if o = true then ∃ a, v = .ref a ∧ H a = none ∧ ¬ F' a ∧ OwnAt M F' H' a d else R M F' H' d v
theorem Got.back {o : Bool} {d : D} {v : V} (s : Same H H1) (g : Got M o F' H1 H' d v) : Got M o F' H H' d v := by
  cases o with
  | false => exact g
  | true => obtain ⟨a, e, n, q⟩ := g; exact ⟨a, e, s.free n, q⟩
end

/-! ### results -/
inductive Res (α : Type) where
  | ok (a : α) | ex (c : Str) (fs : List D) | bad
def Res.bind {α β : Type} (r : Res α) (k : α → Res β) : Res β := match r with
  | .ok a => k a
  | .ex c fs => .ex c fs
  | .bad => .bad
abbrev DS := List (Option D)
/-- an exception of the class that the module calls c, made with the fields fs -/
def ExR (M : Md) (F : Fz) (H : Hp) (c : Str) (fs : List D) (cls : Value) (dx : Option Addr) : Prop :=
  (∃ a, M.mg c = some (.ref a) ∧ cls = .ref a) ∧
    match fs with
    | [] => dx = none
    | _ => ∃ d us, dx = some d ∧ H d = some (.xd us) ∧ Rs M F H fs (us.map (·.2))
/-- the slots as data -/
structure PR (M : Md) (F : Fz) (H : Hp) (σ : St) (δ : DS) : Prop where
  dom : Dom F H
  len : δ.length = σ.length
  at_ : ∀ (i : Nat) (d : D), δ[i]? = some (some d) → ∃ v, σ[i]? = some (some v) ∧ R M F H d v
theorem PR.fr {M : Md} {F F1 : Fz} {H H1 : Hp} {σ : St} {δ : DS} (p : PR M F H σ δ) (a : Fresh F H F1 H1) : PR M F1 H1 σ δ :=
  ⟨p.dom.fr a, p.len, fun i d e => let ⟨v, e1, r⟩ := p.at_ i d e; ⟨v, e1, r.fr a⟩⟩

/-- what is wanted of a result -/
def PostX (M : Md) (W : WX) (F : Fz) (H : Hp) (σ : St) (c : Str) (fs : List D) : Prop := ∀ cls dx H' F', Fresh F H F' H' → ExR M F' H' c fs cls dx → W cls dx σ H'
def PostP (M : Md) (W : WX) (o : Bool) (F : Fz) (H : Hp) (σ : St) (Q : VK) : Res D → Prop
  | .ok d => ∀ v H' F', Fresh F H F' H' → Got M o F' H H' d v → Q v H'
  | .ex c fs => PostX M W F H σ c fs
  | .bad => False
def PostA (M : Md) (W : WX) (F : Fz) (H : Hp) (σ : St) (Q : List V → Hp → Prop) : Res (List D) → Prop
  | .ok ds => ∀ vs H' F', Fresh F H F' H' → Rs M F' H' ds vs → Q vs H'
  | .ex c fs => PostX M W F H σ c fs
  | .bad => False
def PostB (M : Md) (W : WX) (F : Fz) (H : Hp) (σ : St) (Q : Bool → Hp → Prop) : Res Bool → Prop
  | .ok b => ∀ H' F', Fresh F H F' H' → Q b H'
  | .ex c fs => PostX M W F H σ c fs
  | .bad => False
section
variable {M : Md} {W : WX} {F F1 : Fz} {H H1 : Hp} {σ : St}
theorem PostX.step {c : Str} {fs : List D} (a : Fresh F H F1 H1) (p : PostX M W F H σ c fs) : PostX M W F1 H1 σ c fs := fun cls dx H' F' f x => p cls dx H' F' (a.trans f) x
theorem PostP.step {o : Bool} {Q : VK} (a : Fresh F H F1 H1) : ∀ {r : Res D}, PostP M W o F H σ Q r → PostP M W o F1 H1 σ Q r
  | .ok d, p => fun v H' F' f g => p v H' F' (a.trans f) (g.back a.same)
  | .ex c fs, p => PostX.step a p
  | .bad, p => p.elim
theorem PostA.step {Q : List V → Hp → Prop} (a : Fresh F H F1 H1) : ∀ {r : Res (List D)}, PostA M W F H σ Q r → PostA M W F1 H1 σ Q r
  | .ok d, p => fun v H' F' f g => p v H' F' (a.trans f) g
  | .ex c fs, p => PostX.step a p
  | .bad, p => p.elim
theorem PostB.step {Q : Bool → Hp → Prop} (a : Fresh F H F1 H1) : ∀ {r : Res Bool}, PostB M W F H σ Q r → PostB M W F1 H1 σ Q r
  | .ok d, p => fun H' F' f => p H' F' (a.trans f)
  | .ex c fs, p => PostX.step a p
  | .bad, p => p.elim
end

/-! ### pure readings -/
def tP (M : Md) (W : WX) (o : Bool) (f : DS → Res D) : TE := fun σ H Q => ∃ F δ, PR M F H σ δ ∧ PostP M W o F H σ Q (f δ)
def tPA (M : Md) (W : WX) (f : DS → Res (List D)) : TA := fun σ H Q => ∃ F δ, PR M F H σ δ ∧ PostA M W F H σ Q (f δ)
def tPB (M : Md) (W : WX) (f : DS → Res Bool) : TT := fun σ H Q => ∃ F δ, PR M F H σ δ ∧ PostB M W F H σ Q (f δ)
abbrev mdOf (X : Cx) : Md := ⟨X.K, X.mg, X.w⟩
/-- an expression gives f of the slots -/
def DP (X : Cx) (W : WX) (e : Expr) (o : Bool) (f : DS → Res D) : Prop := PE X e (tP (mdOf X) W o f)
def DA (X : Cx) (W : WX) (es : List Expr) (f : DS → Res (List D)) : Prop := PA X es (tPA (mdOf X) W f)
def DT (X : Cx) (W : WX) (e : Expr) (f : DS → Res Bool) : Prop := PT X e (tPB (mdOf X) W f)
section
variable {M : Md} {W : WX} {F F1 : Fz} {H H1 : Hp} {σ : St} {δ : DS} {o : Bool} {Q : VK}
/-- first one expression, then what is wanted of the rest -/
theorem seqP {fa : DS → Res D} {k : D → Res D} (pr : PR M F H σ δ) (post : PostP M W o F H σ Q ((fa δ).bind k)) {Q1 : VK}
    (hk : ∀ d v H1 F1, fa δ = .ok d → Fresh F H F1 H1 → R M F1 H1 d v → PostP M W o F1 H1 σ Q (k d) → Q1 v H1) : tP M W false fa σ H Q1 := by
  refine ⟨F, δ, pr, ?_⟩
  cases e : fa δ with
  | ok d => rw [e] at post; exact fun v H1 F1 f g => hk d v H1 F1 e f g (PostP.step f post)
  | ex c fs => rw [e] at post; exact post
  | bad => rw [e] at post; exact post
theorem seqPA {fa : DS → Res D} {k : D → Res (List D)} {Q : List V → Hp → Prop} (pr : PR M F H σ δ) (post : PostA M W F H σ Q ((fa δ).bind k)) {Q1 : VK}
    (hk : ∀ d v H1 F1, fa δ = .ok d → Fresh F H F1 H1 → R M F1 H1 d v → PostA M W F1 H1 σ Q (k d) → Q1 v H1) : tP M W false fa σ H Q1 := by
  refine ⟨F, δ, pr, ?_⟩
  cases e : fa δ with
  | ok d => rw [e] at post; exact fun v H1 F1 f g => hk d v H1 F1 e f g (PostA.step f post)
  | ex c fs => rw [e] at post; exact post
  | bad => rw [e] at post; exact post
theorem seqPB {fa : DS → Res D} {k : D → Res Bool} {Q : Bool → Hp → Prop} (pr : PR M F H σ δ) (post : PostB M W F H σ Q ((fa δ).bind k)) {Q1 : VK}
    (hk : ∀ d v H1 F1, fa δ = .ok d → Fresh F H F1 H1 → R M F1 H1 d v → PostB M W F1 H1 σ Q (k d) → Q1 v H1) : tP M W false fa σ H Q1 := by
  refine ⟨F, δ, pr, ?_⟩
  cases e : fa δ with
  | ok d => rw [e] at post; exact fun v H1 F1 f g => hk d v H1 F1 e f g (PostB.step f post)
  | ex c fs => rw [e] at post; exact post
  | bad => rw [e] at post; exact post
theorem seqA {fa : DS → Res (List D)} {k : List D → Res D} (pr : PR M F H σ δ) (post : PostP M W o F H σ Q ((fa δ).bind k)) {Q1 : List V → Hp → Prop}
    (hk : ∀ ds vs H1 F1, fa δ = .ok ds → Fresh F H F1 H1 → Rs M F1 H1 ds vs → PostP M W o F1 H1 σ Q (k ds) → Q1 vs H1) : tPA M W fa σ H Q1 := by
  refine ⟨F, δ, pr, ?_⟩
  cases e : fa δ with
  | ok d => rw [e] at post; exact fun v H1 F1 f g => hk d v H1 F1 e f g (PostP.step f post)
  | ex c fs => rw [e] at post; exact post
  | bad => rw [e] at post; exact post
theorem seqAA {fa : DS → Res (List D)} {k : List D → Res (List D)} {Q : List V → Hp → Prop} (pr : PR M F H σ δ) (post : PostA M W F H σ Q ((fa δ).bind k)) {Q1 : List V → Hp → Prop}
    (hk : ∀ ds vs H1 F1, fa δ = .ok ds → Fresh F H F1 H1 → Rs M F1 H1 ds vs → PostA M W F1 H1 σ Q (k ds) → Q1 vs H1) : tPA M W fa σ H Q1 := by
  refine ⟨F, δ, pr, ?_⟩
  cases e : fa δ with
  | ok d => rw [e] at post; exact fun v H1 F1 f g => hk d v H1 F1 e f g (PostA.step f post)
  | ex c fs => rw [e] at post; exact post
  | bad => rw [e] at post; exact post
theorem seqB {fa : DS → Res Bool} {k : Bool → Res D} (pr : PR M F H σ δ) (post : PostP M W o F H σ Q ((fa δ).bind k)) {Q1 : Bool → Hp → Prop}
    (hk : ∀ b H1 F1, fa δ = .ok b → Fresh F H F1 H1 → PostP M W o F1 H1 σ Q (k b) → Q1 b H1) : tPB M W fa σ H Q1 := by
  refine ⟨F, δ, pr, ?_⟩
  cases e : fa δ with
  | ok d => rw [e] at post; exact fun H1 F1 f => hk d H1 F1 e f (PostP.step f post)
  | ex c fs => rw [e] at post; exact post
  | bad => rw [e] at post; exact post
theorem seqBB {fa : DS → Res Bool} {k : Bool → Res Bool} {Q : Bool → Hp → Prop} (pr : PR M F H σ δ) (post : PostB M W F H σ Q ((fa δ).bind k)) {Q1 : Bool → Hp → Prop}
    (hk : ∀ b H1 F1, fa δ = .ok b → Fresh F H F1 H1 → PostB M W F1 H1 σ Q (k b) → Q1 b H1) : tPB M W fa σ H Q1 := by
  refine ⟨F, δ, pr, ?_⟩
  cases e : fa δ with
  | ok d => rw [e] at post; exact fun H1 F1 f => hk d H1 F1 e f (PostB.step f post)
  | ex c fs => rw [e] at post; exact post
  | bad => rw [e] at post; exact post
end
/-- a weaker reading -/
theorem PE_imp {X : Cx} {e : Expr} {t t' : TE} (h : PE X e t) (i : ∀ σ H Q, t' σ H Q → t σ H Q) : PE X e t' := ⟨fun pins s σ H Q I q => h.run pins s σ H Q I (i σ H Q q)⟩
theorem PA_imp {X : Cx} {e : List Expr} {t t' : TA} (h : PA X e t) (i : ∀ σ H Q, t' σ H Q → t σ H Q) : PA X e t' := ⟨fun pos pins s σ H Q I q => h.run pos pins s σ H Q I (i σ H Q q)⟩
theorem PT_imp {X : Cx} {e : Expr} {t t' : TT} (h : PT X e t) (i : ∀ σ H Q, t' σ H Q → t σ H Q) : PT X e t' := ⟨fun pins s σ H Q I q => h.run pins s σ H Q I (i σ H Q q)⟩
theorem PW_imp {X : Cx} {e : Expr} {t t' : TT} (h : PW X e t) (i : ∀ σ H Q, t' σ H Q → t σ H Q) : PW X e t' := ⟨fun wh pins s σ H Q I q => h.run wh pins s σ H Q I (i σ H Q q)⟩
theorem PS_imp {X : Cx} {e : Stmt} {t t' : TS} (h : PS X e t) (i : ∀ D σ H, t' D σ H → t D σ H) : PS X e t' := ⟨fun pins s σ H D I q => h.run pins s σ H D I (i D σ H q)⟩
theorem PSs_imp {X : Cx} {e : List Stmt} {t t' : TS} (h : PSs X e t) (i : ∀ D σ H, t' D σ H → t D σ H) : PSs X e t' := ⟨fun pins s σ H D I q => h.run pins s σ H D I (i D σ H q)⟩

/-! ### names, constants -/
section
variable {X : Cx} {W : WX}
def pVar (i : Nat) : DS → Res D := fun δ => match δ[i]? with
  | some (some d) => .ok d
  | _ => .bad
def pC (d : D) : DS → Res D := fun _ => .ok d
theorem dp_var (i : Nat) {x : Str} {pos : Pos} (hN : X.N[i]? = some x := by rfl) (hv : Vis X.env.scope x := by first | exact Or.inl rfl | exact Or.inr (Or.inl rfl) | exact Or.inr (Or.inr rfl)) (hd : (x == ("__debug__" : Str)) = false := by decide)
    (hcd : (x == ("__classdict__" : Str)) = false := by decide) : DP X W (.Name x pos) false (pVar i) := by
  refine PE_imp (pv i hN hv hd hcd) fun σ H Q h => ?_
  obtain ⟨F, δ, pr, post⟩ := h
  unfold pVar at post
  split at post
  · rename_i d e
    obtain ⟨v, e1, r⟩ := pr.at_ i d e
    exact ⟨v, e1, post v H F (.refl F H) r⟩
  · exact post.elim
theorem dp_c {e : Expr} {v : V} {d : D} (h : PE X e (tC v)) (r : ∀ F H, R (mdOf X) F H d v) : DP X W e false (pC d) := by
  refine PE_imp h fun σ H Q h => ?_
  obtain ⟨F, δ, pr, post⟩ := h
  exact post v H F (.refl F H) (r F H)
theorem dp_int {i : Int} {j : Nat} {pos : Pos} : DP X W (.Constant (.int i) j pos) false (pC (.int i)) := dp_c pe_int fun _ _ => rfl
theorem dp_bl {b : Bool} {j : Nat} {pos : Pos} : DP X W (.Constant (.bool b) j pos) false (pC (.bl b)) := dp_c pe_bl fun _ _ => rfl
theorem dp_non {j : Nat} {pos : Pos} : DP X W (.Constant .none j pos) false (pC .non) := dp_c pe_non fun _ _ => rfl
theorem dp_str {x : Str} {j : Nat} {pos : Pos} : DP X W (.Constant (.str x) j pos) false (pC (.str x)) := dp_c pe_str fun _ _ => rfl
/-- anything, if it is not reached -/
theorem dp_never (e : Expr) (o : Bool) : DP X W e o (fun _ => .bad) := ⟨fun _ _ _ _ _ _ ⟨_, _, _, h⟩ => h.elim⟩
/-- frozen -/
theorem dp_freeze {e : Expr} {f : DS → Res D} (h : DP X W e true f) : DP X W e false f := by
  refine PE_imp h fun σ H Q h => ?_
  obtain ⟨F, δ, pr, post⟩ := h
  refine ⟨F, δ, pr, ?_⟩
  cases e : f δ with
  | ok d =>
    rw [e] at post
    rintro v H' F' fr ⟨a, rfl, n, nf, ow⟩
    refine post _ H' (F'.add a) (fr.add n (by obtain ⟨o, e, _⟩ := ow.there; rw [e]; exact fun z => nomatch z)) (OwnAt.frozen (OwnAt.mono (.refl F' H') (fun _ z => .inl z) rfl ow) (.inr rfl))
  | ex c fs => rw [e] at post; exact post
  | bad => rw [e] at post; exact post
end
end Dn

set_option Elab.async false
set_option linter.all false
set_option maxRecDepth 100000
set_option autoImplicit false
set_option maxHeartbeats 4000000
namespace Dn
open PySem PySem.Spec L2
open PyProof.Rows hiding St

/-! ### operators by values -/
def rD (M : Md) (o : Bool) (g : D → D → Option D) : R2 := fun x y H Q => ∃ F d e r, Dom F H ∧ R M F H d x ∧ R M F H e y ∧ g d e = some r ∧ ∀ v H' F', Fresh F H F' H' → Got M o F' H H' r v → Q v H'
def rC (M : Md) (o : Bool) (g : List D → Option D) : List V → Hp → VK → Prop := fun xs H Q => ∃ F ds r, Dom F H ∧ Rs M F H ds xs ∧ g ds = some r ∧ ∀ v H' F', Fresh F H F' H' → Got M o F' H H' r v → Q v H'
def resO {α : Type} : Option α → Res α
  | some a => .ok a
  | none => .bad
def p2 (g : D → D → Option D) (fa fb : DS → Res D) : DS → Res D := fun δ => (fa δ).bind fun x => (fb δ).bind fun y => resO (g x y)
def pB (g : D → D → Option D) (fa fb : DS → Res D) : DS → Res Bool := fun δ => (fa δ).bind fun x => (fb δ).bind fun y => match g x y with
  | some (.bl b) => .ok b
  | _ => .bad
section
variable {X : Cx} {W : WX} {a b c : Expr} {fa fb fc : DS → Res D} {pos : Pos} {o : Bool}
theorem tOp_of {g : D → D → Option D} {σ : St} {H : Hp} {Q : VK} (h : tP (mdOf X) W o (p2 g fa fb) σ H Q) : tOp (rD (mdOf X) o g) (tP (mdOf X) W false fa) (tP (mdOf X) W false fb) σ H Q := by
  obtain ⟨F, δ, pr, post⟩ := h
  refine seqP (k := fun x => (fb δ).bind fun y => resO (g x y)) pr post fun d v H1 F1 _ f1 r1 post1 => ?_
  refine seqP (k := fun y => resO (g d y)) (pr.fr f1) post1 fun e u H2 F2 _ f2 r2 post2 => ?_
  cases hg : g d e with
  | none => rw [hg] at post2; exact post2.elim
  | some r =>
    rw [hg] at post2
    exact ⟨F2, d, e, r, (pr.dom.fr f1).fr f2, r1.fr f2, r2, hg, post2⟩
theorem dp_op {op : Operator} {g : D → D → Option D} (ho : OpR X (binaryOp op) (rD (mdOf X) o g)) (ha : DP X W a false fa) (hb : DP X W b false fb) : DP X W (.BinOp a op b pos) o (p2 g fa fb) :=
  PE_imp (pe_op ho ha hb) fun _ _ _ h => tOp_of h
theorem dp_cmp {op : CmpOp} {g : D → D → Option D} (ho : OpR X (compareOp op) (rD (mdOf X) false g)) (ha : DP X W a false fa) (hb : DP X W b false fb) (hm : behindInMarks op b = false := by first | exact nomark _ | rfl) : DP X W (.Compare a [op] [b] pos) false (p2 g fa fb) :=
  PE_imp (pe_cmpR ho ha hb hm) fun _ _ _ h => tOp_of h
theorem dt_cmp {op : CmpOp} {g : D → D → Option D} (ho : OpR X (compareOp op) (rD (mdOf X) false g)) (ha : DP X W a false fa) (hb : DP X W b false fb) (hm : behindInMarks op b = false := by first | exact nomark _ | rfl) : DT X W (.Compare a [op] [b] pos) (pB g fa fb) := by
  refine PT_imp (pt_cmpR ho ha hb hm) fun σ H Q h => ?_
  obtain ⟨F, δ, pr, post⟩ := h
  refine tOp_of (o := false) ⟨F, δ, pr, ?_⟩
  unfold pB at post
  unfold p2
  cases e1 : fa δ with
  | bad => rw [e1] at post; exact post
  | ex c fs => rw [e1] at post; exact post
  | ok d =>
    rw [e1] at post
    show PostP _ _ _ _ _ _ _ ((fb δ).bind fun y => resO (g d y))
    have post : PostB (mdOf X) W F H σ Q ((fb δ).bind _) := post
    cases e2 : fb δ with
    | bad => rw [e2] at post; exact post
    | ex c fs => rw [e2] at post; exact post
    | ok e =>
      rw [e2] at post
      simp only [Res.bind] at post ⊢
      split at post
      · rename_i k hk
        rw [hk]
        exact fun v H' F' f r => ⟨k, r, post H' F' f⟩
      · exact post.elim
/-- a < b < c -/
def pChain (g g' : D → D → Option D) (fa fb fc : DS → Res D) : DS → Res D := fun δ => (fa δ).bind fun x => (fb δ).bind fun y => match g x y with
  | some (.bl true) => (fc δ).bind fun z => resO (g' y z)
  | some (.bl false) => .ok (.bl false)
  | _ => .bad
theorem dp_chain {op op' : CmpOp} {g g' : D → D → Option D} (ho : OpR X (compareOp op) (rD (mdOf X) false g)) (ho' : OpR X (compareOp op') (rD (mdOf X) false g'))
    (ha : DP X W a false fa) (hb : DP X W b false fb) (hc : DP X W c false fc) (hm : lastMarks [op, op'] [b, c] = false := by first | rfl | (simp [lastMarks, behindInMarks])) :
    DP X W (.Compare a [op, op'] [b, c] pos) false (pChain g g' fa fb fc) := by
  refine PE_imp (pe_chain ho ho' ha hb hc hm) fun σ H Q h => ?_
  obtain ⟨F, δ, pr, post⟩ := h
  refine seqP (k := fun x => (fb δ).bind fun y => match g x y with
    | some (.bl true) => (fc δ).bind fun z => resO (g' y z)
    | some (.bl false) => .ok (.bl false)
    | _ => .bad) pr post fun d v H1 F1 _ f1 r1 post1 => ?_
  refine seqP (k := fun y => match g d y with
    | some (.bl true) => (fc δ).bind fun z => resO (g' y z)
    | some (.bl false) => .ok (.bl false)
    | _ => .bad) (pr.fr f1) post1 fun e u H2 F2 _ f2 r2 post2 => ?_
  cases hg : g d e with
  | none => rw [hg] at post2; exact post2.elim
  | some r =>
    rw [hg] at post2
    refine ⟨F2, d, e, r, (pr.dom.fr f1).fr f2, r1.fr f2, r2, hg, fun w H3 F3 f3 g3 => ?_⟩
    cases r with
    | bl k =>
      have e3 : w = .bl k := g3
      refine ⟨k, e3, ?_⟩
      cases k with
      | true =>
        refine iteT (seqP (k := fun z => resO (g' e z)) ((pr.fr (f1.trans f2)).fr f3) (PostP.step f3 post2) fun z u' H4 F4 _ f4 r4 post4 => ?_)
        cases hg' : g' e z with
        | none => rw [hg'] at post4; exact post4.elim
        | some r' => rw [hg'] at post4; exact ⟨F4, e, z, r', (((pr.dom.fr f1).fr f2).fr f3).fr f4, (r2.fr f3).fr f4, r4, hg', post4⟩
      | false => exact iteF (post2 _ H3 F3 f3 rfl)
    | _ => exact post2.elim
def pU (g : D → Option D) (fa : DS → Res D) : DS → Res D := fun δ => (fa δ).bind fun x => resO (g x)
/-- the truth of a value -/
def LN : Nat := 16777216
theorem line_eq : sizeLine = LN := sizeLine_eq
def truD : D → Option Bool
  | .non => some false
  | .bl b => some b
  | .int i => some (i != 0)
  | .str x => if x.length ≤ LN then some (x.length != 0) else none
  | .tup xs => some (!xs.isEmpty)
  | .lst xs => some (!xs.isEmpty)
  | .dct 0 ks _ => some (!ks.isEmpty)
  | _ => none
def pT (fa : DS → Res D) : DS → Res Bool := fun δ => (fa δ).bind fun x => resO (truD x)
end
end Dn

set_option Elab.async false
set_option linter.all false
set_option maxRecDepth 100000
set_option autoImplicit false
set_option maxHeartbeats 4000000
namespace Dn
open PySem PySem.Spec L2
open PyProof.Rows hiding St

section
variable {X : Cx} {W : WX} {e a b c : Expr} {es rest : List Expr} {f fa fb fc : DS → Res D} {ga gb gc : DS → Res Bool} {fs : DS → Res (List D)} {pos : Pos} {o : Bool}
/-! ### truth, and, or, not, if -/
theorem dt_val (ha : DP X W a false fa) (he : ∀ whole, isTrue a X.env whole = (do let v ← whole; standAt a.pos; holding [v] (truthy v)) := by intro _; rfl) : DT X W a (pT fa) := by
  refine PT_imp (pt_truth ha he) fun σ H Q h => ?_
  obtain ⟨F, δ, pr, post⟩ := h
  refine seqPB (k := fun x => resO (truD x)) pr post fun d v H1 F1 _ f1 r1 post1 => ?_
  cases ht : truD d with
  | none => rw [ht] at post1; exact post1.elim
  | some k =>
    rw [ht] at post1
    refine ⟨k, ?_, post1 H1 F1 (.refl F1 H1)⟩
    cases d with
    | non => cases r1; cases ht; rfl
    | bl b => cases r1; cases ht; rfl
    | int i => cases r1; cases ht; rfl
    | str x =>
      cases r1
      change (if x.length ≤ LN then some (x.length != 0) else none) = some k at ht
      split at ht
      · rename_i hl
        cases ht
        refine ⟨by rw [line_eq]; exact hl, ?_⟩
        show (x.length != 0) = ((x.length : Int) != 0)
        cases x.length with
        | zero => rfl
        | succ n => rfl
      · cases ht
    | tup xs =>
      obtain ⟨p, vs, rfl, t, r⟩ := r1
      cases ht
      refine .inr (.inl ⟨vs, t, ?_⟩)
      cases xs with
      | nil => cases (show vs = [] from r); rfl
      | cons x xs => obtain ⟨y, ys, e, _, _⟩ := r; rw [e]; rfl
    | lst xs =>
      obtain ⟨p, vs, rfl, _, t, r⟩ := r1
      cases ht
      refine .inl ⟨vs, .inl (.inl t), ?_⟩
      cases xs with
      | nil => cases (show vs = [] from r); rfl
      | cons x xs => obtain ⟨y, ys, e, _, _⟩ := r; rw [e]; rfl
    | dct n ks vs =>
      match n, r1, ht with
      | 1, r1, ht => cases ht
      | n + 2, r1, ht => cases ht
      | 0, r1, ht =>
        obtain ⟨p, kvs, rfl, _, t, k2, r⟩ := r1
        cases ht
        refine .inr (.inr ⟨kvs, t, ?_⟩)
        rw [k2]
        cases kvs <;> rfl
    | _ => cases ht
theorem dp_one {op : BoolOp} (h : DP X W a false fa) : DP X W (.BoolOp op [a] pos) false fa := pe_one h
def pAnd (fa fb : DS → Res D) : DS → Res D := fun δ => (fa δ).bind fun x => match x with
  | .bl true => fb δ
  | .bl false => .ok (.bl false)
  | _ => .bad
def pOr (fa fb : DS → Res D) : DS → Res D := fun δ => (fa δ).bind fun x => match x with
  | .bl false => fb δ
  | .bl true => .ok (.bl true)
  | _ => .bad
def pNot (fa : DS → Res D) : DS → Res D := fun δ => (fa δ).bind fun x => match x with
  | .bl b => .ok (.bl (!b))
  | _ => .bad
theorem dp_and (ha : DP X W a false fa) (hb : DP X W (.BoolOp .And (b :: rest) pos) false fb) : DP X W (.BoolOp .And (a :: b :: rest) pos) false (pAnd fa fb) := by
  refine PE_imp (pe_and ha hb) fun σ H Q h => ?_
  obtain ⟨F, δ, pr, post⟩ := h
  refine seqP (k := fun x => match x with
    | .bl true => fb δ
    | .bl false => .ok (.bl false)
    | _ => .bad) pr post fun d v H1 F1 _ f1 r1 post1 => ?_
  cases d with
  | bl k =>
    refine ⟨k, r1, ?_⟩
    cases k with
    | true => exact iteT ⟨F1, δ, pr.fr f1, post1⟩
    | false => exact iteF (post1 _ H1 F1 (.refl F1 H1) rfl)
  | _ => exact post1.elim
theorem dp_or (ha : DP X W a false fa) (hb : DP X W (.BoolOp .Or (b :: rest) pos) false fb) : DP X W (.BoolOp .Or (a :: b :: rest) pos) false (pOr fa fb) := by
  refine PE_imp (pe_or ha hb) fun σ H Q h => ?_
  obtain ⟨F, δ, pr, post⟩ := h
  refine seqP (k := fun x => match x with
    | .bl false => fb δ
    | .bl true => .ok (.bl true)
    | _ => .bad) pr post fun d v H1 F1 _ f1 r1 post1 => ?_
  cases d with
  | bl k =>
    refine ⟨k, r1, ?_⟩
    cases k with
    | false => exact iteF ⟨F1, δ, pr.fr f1, post1⟩
    | true => exact iteT (post1 _ H1 F1 (.refl F1 H1) rfl)
  | _ => exact post1.elim
theorem dp_not (ha : DP X W a false fa) : DP X W (.UnaryOp .Not a pos) false (pNot fa) := by
  refine PE_imp (pe_not ha) fun σ H Q h => ?_
  obtain ⟨F, δ, pr, post⟩ := h
  refine seqP (k := fun x => match x with
    | .bl b => .ok (.bl (!b))
    | _ => .bad) pr post fun d v H1 F1 _ f1 r1 post1 => ?_
  cases d with
  | bl k => exact ⟨k, r1, post1 _ H1 F1 (.refl F1 H1) rfl⟩
  | _ => exact post1.elim
/-- tests -/
def DW (X : Cx) (W : WX) (e : Expr) (f : DS → Res Bool) : Prop := PW X e (tPB (mdOf X) W f)
theorem DW.dt (h : DW X W e ga) : DT X W e ga := PW.pt h
def bAnd (fa fb : DS → Res Bool) : DS → Res Bool := fun δ => (fa δ).bind fun x => if x then fb δ else .ok false
def bOr (fa fb : DS → Res Bool) : DS → Res Bool := fun δ => (fa δ).bind fun x => if x then .ok true else fb δ
def bNot (fa : DS → Res Bool) : DS → Res Bool := fun δ => (fa δ).bind fun x => .ok (!x)
theorem dw_and1 (h : DT X W a ga) : DW X W (.BoolOp .And [a] pos) ga := pw_and1 h
theorem dw_or1 (h : DT X W a ga) : DW X W (.BoolOp .Or [a] pos) ga := pw_or1 h
theorem dw_and (ha : DT X W a ga) (hb : DW X W (.BoolOp .And (b :: rest) pos) gb) : DW X W (.BoolOp .And (a :: b :: rest) pos) (bAnd ga gb) := by
  refine PW_imp (pw_and ha hb) fun σ H Q h => ?_
  obtain ⟨F, δ, pr, post⟩ := h
  refine seqBB (k := fun x => if x then gb δ else .ok false) pr post fun k H1 F1 _ f1 post1 => ?_
  cases k with
  | true => exact iteT ⟨F1, δ, pr.fr f1, post1⟩
  | false => exact iteF (post1 H1 F1 (.refl F1 H1))
theorem dw_or (ha : DT X W a ga) (hb : DW X W (.BoolOp .Or (b :: rest) pos) gb) : DW X W (.BoolOp .Or (a :: b :: rest) pos) (bOr ga gb) := by
  refine PW_imp (pw_or ha hb) fun σ H Q h => ?_
  obtain ⟨F, δ, pr, post⟩ := h
  refine seqBB (k := fun x => if x then .ok true else gb δ) pr post fun k H1 F1 _ f1 post1 => ?_
  cases k with
  | false => exact iteF ⟨F1, δ, pr.fr f1, post1⟩
  | true => exact iteT (post1 H1 F1 (.refl F1 H1))
theorem dt_not (ha : DT X W a ga) : DT X W (.UnaryOp .Not a pos) (bNot ga) := by
  refine PT_imp (pt_not ha) fun σ H Q h => ?_
  obtain ⟨F, δ, pr, post⟩ := h
  exact seqBB (k := fun x => .ok (!x)) pr post fun k H1 F1 _ f1 post1 => post1 H1 F1 (.refl F1 H1)
def pIf (gc : DS → Res Bool) (fa fb : DS → Res D) : DS → Res D := fun δ => (gc δ).bind fun x => if x then fa δ else fb δ
theorem dp_if (hc : DT X W c gc) (ha : DP X W a o fa) (hb : DP X W b o fb) : DP X W (.IfExp c a b pos) o (pIf gc fa fb) := by
  refine PE_imp (pe_ifExp hc ha hb) fun σ H Q h => ?_
  obtain ⟨F, δ, pr, post⟩ := h
  refine seqB (k := fun x => if x then fa δ else fb δ) pr post fun k H1 F1 _ f1 post1 => ?_
  cases k with
  | true => exact iteT ⟨F1, δ, pr.fr f1, post1⟩
  | false => exact iteF ⟨F1, δ, pr.fr f1, post1⟩

/-! ### several expressions, tuples, lists -/
def aNil : DS → Res (List D) := fun _ => .ok []
def aCons (f : DS → Res D) (fs : DS → Res (List D)) : DS → Res (List D) := fun δ => (f δ).bind fun x => (fs δ).bind fun xs => .ok (x :: xs)
theorem da_nil : DA X W [] aNil := PA_imp pa_nil fun σ H Q h => by
  obtain ⟨F, δ, pr, post⟩ := h
  exact post [] H F (.refl F H) rfl
theorem da_cons (ha : DP X W e false f) (hr : DA X W es fs) (hs : starEach (e :: es) X.env = (false, eval e X.env) :: starEach es X.env := by rfl) : DA X W (e :: es) (aCons f fs) := by
  refine PA_imp (pa_cons ha hr hs) fun σ H Q h => ?_
  obtain ⟨F, δ, pr, post⟩ := h
  refine seqPA (k := fun x => (fs δ).bind fun xs => .ok (x :: xs)) pr post fun d v H1 F1 _ f1 r1 post1 => ?_
  refine seqAA (k := fun xs => .ok (d :: xs)) (pr.fr f1) post1 fun ds vs H2 F2 _ f2 r2 post2 => ?_
  exact post2 _ H2 F2 (.refl F2 H2) ⟨v, vs, rfl, r1.fr f2, r2⟩
theorem Rs.length {M : Md} {F : Fz} {H : Hp} : ∀ {ds : List D} {vs : List V}, Rs M F H ds vs → ds.length = vs.length
  | [], _, h => by cases (show _ = [] from h); rfl
  | _ :: _, _, h => by obtain ⟨v, r, rfl, _, h2⟩ := h; rw [List.length_cons, List.length_cons, Rs.length h2]
def tupD (ds : List D) : Res D := if ds.length ≤ LN then .ok (.tup ds) else .bad
def lstD (ds : List D) : Res D := if ds.length ≤ LN then .ok (.lst ds) else .bad
def pTup (fs : DS → Res (List D)) : DS → Res D := fun δ => (fs δ).bind tupD
def pLst (fs : DS → Res (List D)) : DS → Res D := fun δ => (fs δ).bind lstD
theorem R.new_tup {M : Md} {F : Fz} {H : Hp} {ds : List D} {vs : List V} {p : Addr} (r : Rs M F H ds vs) (n : H p = none) : R M F (upd H p (.tup vs)) (.tup ds) (.ref p) :=
  ⟨p, vs, rfl, .inl (.inl upd_same), r.fr (Fresh.upd n)⟩
theorem Own.new_lst {M : Md} {F : Fz} {H : Hp} {ds : List D} {vs : List V} {p : Addr} (r : Rs M F H ds vs) (n : H p = none) : OwnAt M F (upd H p (.lst vs)) p (.lst ds) :=
  ⟨vs, upd_same, r.fr (Fresh.upd n)⟩
theorem dp_tup {x1 : Nat} (h : DA X W es fs) : DP X W (.Tuple es x1 pos) false (pTup fs) := by
  refine PE_imp (pe_tup h) fun σ H Q h => ?_
  obtain ⟨F, δ, pr, post⟩ := h
  refine seqA (k := tupD) pr post fun ds vs H1 F1 _ f1 r1 post1 => ?_
  unfold tupD at post1
  split at post1
  · rename_i hl
    refine ⟨by rw [← r1.length, line_eq]; exact hl, fun p hp => ?_⟩
    exact post1 _ _ F1 (.upd hp) (R.new_tup r1 hp)
  · exact post1.elim
/-- a new list, not frozen -/
theorem got_new {M : Md} {F : Fz} {H : Hp} {ds : List D} {vs : List V} {p : Addr} (dom : Dom F H) (r : Rs M F H ds vs) (n : H p = none) : Got M true F H (upd H p (.lst vs)) (.lst ds) (.ref p) :=
  ⟨p, rfl, n, fun h => dom p h n, Own.new_lst r n⟩
theorem dp_lst (h : DA X W es fs) : DP X W (.List es pos) true (pLst fs) := by
  refine PE_imp (pe_lst h) fun σ H Q h => ?_
  obtain ⟨F, δ, pr, post⟩ := h
  refine seqA (k := lstD) pr post fun ds vs H1 F1 _ f1 r1 post1 => ?_
  unfold lstD at post1
  split at post1
  · rename_i hl
    refine ⟨by rw [← r1.length, line_eq]; exact hl, fun p hp => ?_⟩
    exact post1 _ _ F1 (.upd hp) (got_new (pr.dom.fr f1) r1 hp)
  · exact post1.elim
end
end Dn

set_option Elab.async false
set_option linter.all false
set_option maxRecDepth 100000
set_option autoImplicit false
set_option maxHeartbeats 4000000
namespace Dn
open PySem PySem.Spec L2
open PyProof.Rows hiding St

/-! ### equality of data -/
mutual
def D.deq : (a b : D) → Decidable (a = b)
  | .non, b => match b with
    | .non => .isTrue rfl
    | .bl _ | .int _ | .str _ | .ty _ | .fn _ | .tup _ | .lst _ | .fl _ | .dct _ _ _ => .isFalse (fun h => nomatch h)
  | .bl x, b => match b with
    | .bl y => if h : x = y then .isTrue (h ▸ rfl) else .isFalse (fun e => h (D.bl.inj e))
    | .non | .int _ | .str _ | .ty _ | .fn _ | .tup _ | .lst _ | .fl _ | .dct _ _ _ => .isFalse (fun h => nomatch h)
  | .int x, b => match b with
    | .int y => if h : x = y then .isTrue (h ▸ rfl) else .isFalse (fun e => h (D.int.inj e))
    | .non | .bl _ | .str _ | .ty _ | .fn _ | .tup _ | .lst _ | .fl _ | .dct _ _ _ => .isFalse (fun h => nomatch h)
  | .str x, b => match b with
    | .str y => if h : x = y then .isTrue (h ▸ rfl) else .isFalse (fun e => h (D.str.inj e))
    | .non | .bl _ | .int _ | .ty _ | .fn _ | .tup _ | .lst _ | .fl _ | .dct _ _ _ => .isFalse (fun h => nomatch h)
  | .ty x, b => match b with
    | .ty y => if h : x = y then .isTrue (h ▸ rfl) else .isFalse (fun e => h (D.ty.inj e))
    | .non | .bl _ | .int _ | .str _ | .fn _ | .tup _ | .lst _ | .fl _ | .dct _ _ _ => .isFalse (fun h => nomatch h)
  | .fn x, b => match b with
    | .fn y => if h : x = y then .isTrue (h ▸ rfl) else .isFalse (fun e => h (D.fn.inj e))
    | .non | .bl _ | .int _ | .str _ | .ty _ | .tup _ | .lst _ | .fl _ | .dct _ _ _ => .isFalse (fun h => nomatch h)
  | .tup x, b => match b with
    | .tup y => match D.deqs x y with
      | .isTrue h => .isTrue (h ▸ rfl)
      | .isFalse h => .isFalse (fun e => h (D.tup.inj e))
    | .non | .bl _ | .int _ | .str _ | .ty _ | .fn _ | .lst _ | .fl _ | .dct _ _ _ => .isFalse (fun h => nomatch h)
  | .lst x, b => match b with
    | .lst y => match D.deqs x y with
      | .isTrue h => .isTrue (h ▸ rfl)
      | .isFalse h => .isFalse (fun e => h (D.lst.inj e))
    | .non | .bl _ | .int _ | .str _ | .ty _ | .fn _ | .tup _ | .fl _ | .dct _ _ _ => .isFalse (fun h => nomatch h)
  | .fl x, b => match b with
    | .fl y => match D.deqs x y with
      | .isTrue h => .isTrue (h ▸ rfl)
      | .isFalse h => .isFalse (fun e => h (D.fl.inj e))
    | .non | .bl _ | .int _ | .str _ | .ty _ | .fn _ | .tup _ | .lst _ | .dct _ _ _ => .isFalse (fun h => nomatch h)
  | .dct n x z, b => match b with
    | .dct m y w => match D.deqs x y, D.deqs z w with
      | .isTrue h, .isTrue h' => if e : n = m then .isTrue (by rw [h, h', e]) else .isFalse (fun q => e (D.dct.inj q).1)
      | .isFalse h, _ => .isFalse (fun e => h (D.dct.inj e).2.1)
      | _, .isFalse h => .isFalse (fun e => h (D.dct.inj e).2.2)
    | .non | .bl _ | .int _ | .str _ | .ty _ | .fn _ | .tup _ | .lst _ | .fl _ => .isFalse (fun h => nomatch h)
def D.deqs : (a b : List D) → Decidable (a = b)
  | [], [] => .isTrue rfl
  | [], _ :: _ => .isFalse (fun h => nomatch h)
  | _ :: _, [] => .isFalse (fun h => nomatch h)
  | x :: xs, y :: ys => match D.deq x y, D.deqs xs ys with
    | .isTrue h, .isTrue h' => .isTrue (by rw [h, h'])
    | .isFalse h, _ => .isFalse (fun e => h (List.cons.inj e).1)
    | _, .isFalse h => .isFalse (fun e => h (List.cons.inj e).2)
end
instance : DecidableEq D := D.deq

/-! ### items by place, slices -/
section
variable {M : Md} {F : Fz} {H : Hp}
theorem Rs.get : ∀ {ds : List D} {vs : List V} {i : Nat} {d : D}, Rs M F H ds vs → ds[i]? = some d → ∃ v, vs[i]? = some v ∧ R M F H d v
  | [], _, _, _, _, e => by simp at e
  | d :: ds, _, 0, x, h, e => by
    obtain ⟨v, r, rfl, h1, _⟩ := h
    simp only [List.getElem?_cons_zero, Option.some.injEq] at e
    subst e
    exact ⟨v, rfl, h1⟩
  | d :: ds, _, i + 1, x, h, e => by
    obtain ⟨v, r, rfl, _, h2⟩ := h
    simp only [List.getElem?_cons_succ] at e ⊢
    exact Rs.get h2 e
theorem Rs.get' : ∀ {ds : List D} {vs : List V} {i : Nat} {v : V}, Rs M F H ds vs → vs[i]? = some v → ∃ d, ds[i]? = some d ∧ R M F H d v
  | [], _, _, _, h, e => by cases (show _ = [] from h); simp at e
  | d :: ds, _, 0, x, h, e => by
    obtain ⟨v, r, rfl, h1, _⟩ := h
    simp only [List.getElem?_cons_zero, Option.some.injEq] at e
    subst e
    exact ⟨d, rfl, h1⟩
  | d :: ds, _, i + 1, x, h, e => by
    obtain ⟨v, r, rfl, _, h2⟩ := h
    simp only [List.getElem?_cons_succ] at e ⊢
    exact Rs.get' h2 e
theorem Rs.app : ∀ {ds es : List D} {vs us : List V}, Rs M F H ds vs → Rs M F H es us → Rs M F H (ds ++ es) (vs ++ us)
  | [], _, _, _, h, k => by cases (show _ = [] from h); exact k
  | d :: ds, _, _, _, h, k => by
    obtain ⟨v, r, rfl, h1, h2⟩ := h
    exact ⟨v, r ++ _, rfl, h1, Rs.app h2 k⟩
theorem Rs.take : ∀ (n : Nat) {ds : List D} {vs : List V}, Rs M F H ds vs → Rs M F H (ds.take n) (vs.take n)
  | 0, _, _, _ => by rw [List.take_zero, List.take_zero]; rfl
  | n + 1, [], _, h => by cases (show _ = [] from h); rfl
  | n + 1, d :: ds, _, h => by obtain ⟨v, r, rfl, h1, h2⟩ := h; exact ⟨v, _, rfl, h1, Rs.take n h2⟩
theorem Rs.drop : ∀ (n : Nat) {ds : List D} {vs : List V}, Rs M F H ds vs → Rs M F H (ds.drop n) (vs.drop n)
  | 0, _, _, h => h
  | n + 1, [], _, h => by cases (show _ = [] from h); rfl
  | n + 1, d :: ds, _, h => by obtain ⟨v, r, rfl, h1, h2⟩ := h; exact Rs.drop n h2
theorem Rs.rev {ds : List D} {vs : List V} (h : Rs M F H ds vs) : Rs M F H ds.reverse vs.reverse := by
  induction ds generalizing vs with
  | nil => cases (show _ = [] from h); rfl
  | cons d ds ih =>
    obtain ⟨v, r, rfl, h1, h2⟩ := h
    rw [List.reverse_cons, List.reverse_cons]
    exact Rs.app (ih h2) ⟨v, [], rfl, h1, rfl⟩
theorem Rs.set : ∀ (i : Nat) {ds : List D} {vs : List V} {d : D} {v : V}, Rs M F H ds vs → R M F H d v → Rs M F H (ds.set i d) (vs.set i v)
  | _, [], _, _, _, h, _ => by cases (show _ = [] from h); rfl
  | 0, e :: ds, _, _, _, h, k => by obtain ⟨v, r, rfl, h1, h2⟩ := h; exact ⟨_, r, rfl, k, h2⟩
  | i + 1, e :: ds, _, _, _, h, k => by obtain ⟨v, r, rfl, h1, h2⟩ := h; exact ⟨v, _, rfl, h1, Rs.set i h2 k⟩
theorem Rs.dropLast : ∀ {ds : List D} {vs : List V}, Rs M F H ds vs → Rs M F H ds.dropLast vs.dropLast := fun {ds vs} h => by
  rw [List.dropLast_eq_take, List.dropLast_eq_take, h.length]; exact h.take _
theorem Rs.rep {ds : List D} {vs : List V} (h : Rs M F H ds vs) : ∀ k : Nat, Rs M F H (List.replicate k ds).flatten (List.replicate k vs).flatten
  | 0 => rfl
  | k + 1 => by rw [List.replicate_succ, List.replicate_succ, List.flatten_cons, List.flatten_cons]; exact h.app (Rs.rep h k)
theorem Rs.erase : ∀ (i : Nat) {ds : List D} {vs : List V}, Rs M F H ds vs → Rs M F H (ds.eraseIdx i) (vs.eraseIdx i)
  | _, [], _, h => by cases (show _ = [] from h); rfl
  | 0, e :: ds, _, h => by obtain ⟨v, r, rfl, h1, h2⟩ := h; exact h2
  | i + 1, e :: ds, _, h => by obtain ⟨v, r, rfl, h1, h2⟩ := h; exact ⟨v, _, rfl, h1, Rs.erase i h2⟩
theorem Rs.at_ {ds : List D} {vs : List V} {i : Int} {d : D} (h : Rs M F H ds vs) (e : atI ds i = some d) : ∃ v, atI vs i = some v ∧ R M F H d v := by
  unfold atI at e ⊢
  rw [← h.length]
  cases q : ixN ds.length i with
  | none => rw [q] at e; cases e
  | some j =>
    rw [q] at e
    exact h.get e
end
/-- xs[lo:hi] -/
def cutL {α : Type} (xs : List α) (lo hi : Option Int) : List α := (xs.drop (HT.sIx xs.length 0 lo)).take (HT.sIx xs.length xs.length hi - HT.sIx xs.length 0 lo)
theorem Rs.cut {M : Md} {F : Fz} {H : Hp} {ds : List D} {vs : List V} (h : Rs M F H ds vs) (lo hi : Option Int) : Rs M F H (cutL ds lo hi) (cutV vs lo hi) := by
  unfold cutL cutV
  rw [h.length]
  exact (h.drop _).take _

/-! ### dicts -/
def lookD : List D → List D → D → Option D
  | k :: ks, v :: vs, d => if k = d then some v else lookD ks vs d
  | _, _, _ => none
def repD : List D → List D → D → D → List D
  | k :: ks, v :: vs, d, x => (if k = d then x else v) :: repD ks vs d x
  | _, _, _, _ => []
def putD (ks vs : List D) (d x : D) : List D × List D := if d ∈ ks then (ks, repD ks vs d x) else (ks ++ [d], vs ++ [x])
def keyOf : D → Option Key
  | .int i => some (.inl i)
  | .str x => some (.inr x)
  | _ => none
theorem keyOf_some : ∀ {d : D} {k : Key}, keyOf d = some k → d = keyD k
  | .int i, _, h => by cases h; rfl
  | .str i, _, h => by cases h; rfl
theorem keyOf_keyD : ∀ k : Key, keyOf (keyD k) = some k
  | .inl _ => rfl
  | .inr _ => rfl
theorem keyD_inj {a b : Key} (h : keyD a = keyD b) : a = b := by
  have := congrArg keyOf h
  rw [keyOf_keyD, keyOf_keyD] at this
  exact Option.some.inj this
def keysOf : List D → Option (List Key)
  | [] => some []
  | d :: ds => (keyOf d).bind fun k => (keysOf ds).bind fun ks => some (k :: ks)
theorem keysOf_some : ∀ {ds : List D} {ks : List Key}, keysOf ds = some ks → ds = ks.map keyD
  | [], _, h => by cases h; rfl
  | d :: ds, _, h => by
    unfold keysOf at h
    cases e : keyOf d with
    | none => rw [e] at h; cases h
    | some k =>
      cases e2 : keysOf ds with
      | none => rw [e, e2] at h; cases h
      | some ks => rw [e, e2] at h; cases h; rw [List.map_cons, keyOf_some e, keysOf_some e2]
theorem keyDs_inj : ∀ {a b : List Key}, a.map keyD = b.map keyD → a = b
  | [], [], _ => rfl
  | [], _ :: _, h => nomatch h
  | _ :: _, [], h => nomatch h
  | x :: xs, y :: ys, h => by
    rw [List.map_cons, List.map_cons] at h
    injection h with h1 h2
    rw [keyD_inj h1, keyDs_inj h2]
theorem R_key {M : Md} {F : Fz} {H : Hp} : ∀ {k : Key} {v : V}, R M F H (keyD k) v → v = kV k
  | .inl _, _, h => h
  | .inr _, _, h => h
theorem R_of_key {M : Md} {F : Fz} {H : Hp} : ∀ (k : Key), R M F H (keyD k) (kV k)
  | .inl _ => rfl
  | .inr _ => rfl
theorem Rs_keys {M : Md} {F : Fz} {H : Hp} : ∀ {ks : List Key} {vs : List V}, Rs M F H (ks.map keyD) vs → vs = ks.map kV
  | [], _, h => h
  | k :: ks, _, h => by obtain ⟨v, r, rfl, h1, h2⟩ := h; rw [R_key h1, Rs_keys h2]; rfl
theorem Rs_of_keys {M : Md} {F : Fz} {H : Hp} : ∀ (ks : List Key), Rs M F H (ks.map keyD) (ks.map kV)
  | [] => rfl
  | k :: ks => ⟨_, _, rfl, R_of_key k, Rs_of_keys ks⟩
section
variable {κ : Type} [DecidableEq κ] {g : κ → D} (gi : ∀ a b, g a = g b → a = b) {M : Md} {F : Fz} {H : Hp}
include gi
theorem look_val : ∀ {ds : List D} {kvs : List (κ × V)} (k : κ), Rs M F H ds (kvs.map (·.2)) →
    match lookD (kvs.map fun p => g p.1) ds (g k) with
    | some d => ∃ v, valV kvs k = some v ∧ R M F H d v
    | none => valV kvs k = none
  | [], kvs, k, h => by
    have e : kvs = [] := by simpa using (show kvs.map (·.2) = [] from h)
    subst e; rfl
  | d :: ds, [], k, h => by obtain ⟨v, r, e, _, _⟩ := h; simp at e
  | d :: ds, p :: kvs, k, h => by
    obtain ⟨v, r, e, h1, h2⟩ := h
    rw [List.map_cons] at e
    injection e with e1 e2
    show match (if g p.1 = g k then some d else lookD (kvs.map fun p => g p.1) ds (g k)) with
      | some d => ∃ v, valV (p :: kvs) k = some v ∧ R M F H d v
      | none => valV (p :: kvs) k = none
    by_cases q : p.1 = k
    · rw [if_pos (by rw [q]), valV_pos q]
      exact ⟨p.2, rfl, e1 ▸ h1⟩
    · rw [if_neg (fun z => q (gi _ _ z)), valV_neg q]
      exact look_val k (e2 ▸ h2)
theorem rep_val : ∀ {ds : List D} {kvs : List (κ × V)} (k : κ) {d : D} {v : V}, Rs M F H ds (kvs.map (·.2)) → R M F H d v →
    Rs M F H (repD (kvs.map fun p => g p.1) ds (g k) d) ((kvs.map fun kv => if kv.1 = k then (kv.1, v) else kv).map (·.2))
  | [], kvs, k, d, v, h, r => by
    have e : kvs = [] := by simpa using (show kvs.map (·.2) = [] from h)
    subst e; rfl
  | d :: ds, [], k, _, _, h, r => by obtain ⟨v, r, e, _, _⟩ := h; simp at e
  | x :: ds, p :: kvs, k, d, v, h, r => by
    obtain ⟨u, us, e, h1, h2⟩ := h
    rw [List.map_cons] at e
    injection e with e1 e2
    refine ⟨_, _, rfl, ?_, rep_val k (e2 ▸ h2) r⟩
    show R M F H (if g p.1 = g k then d else x) (if p.1 = k then (p.1, v) else p).2
    by_cases q : p.1 = k
    · rw [if_pos q, if_pos (by rw [q])]; exact r
    · rw [if_neg q, if_neg (fun z => q (gi _ _ z)), e1]; exact h1
theorem mem_key {kvs : List (κ × V)} (k : κ) : (g k ∈ kvs.map fun p => g p.1) ↔ (kvs.any fun kv => decide (kv.1 = k)) = true := by
  simp only [List.mem_map, List.any_eq_true, decide_eq_true_eq]
  exact ⟨fun ⟨p, hp, e⟩ => ⟨p, hp, gi _ _ e⟩, fun ⟨p, hp, e⟩ => ⟨p, hp, by rw [e]⟩⟩
theorem put_val {ds : List D} {kvs : List (κ × V)} (k : κ) {d : D} {v : V} (h : Rs M F H ds (kvs.map (·.2))) (r : R M F H d v) :
    (putD (kvs.map fun p => g p.1) ds (g k) d).1 = (putK kvs k v).map (fun p => g p.1) ∧ Rs M F H (putD (kvs.map fun p => g p.1) ds (g k) d).2 ((putK kvs k v).map (·.2)) := by
  unfold putD putK
  by_cases z : (kvs.any fun kv => decide (kv.1 = k)) = true
  · rw [if_pos z, if_pos ((mem_key gi k).mpr z)]
    refine ⟨?_, rep_val gi k h r⟩
    show (kvs.map fun p => g p.1) = _
    rw [List.map_map]
    refine List.map_congr_left fun p _ => ?_
    show g p.1 = g (if p.1 = k then (p.1, v) else p).1
    split <;> rfl
  · rw [if_neg z, if_neg (fun q => z ((mem_key gi k).mp q))]
    refine ⟨by rw [List.map_append]; rfl, ?_⟩
    rw [List.map_append]
    exact h.app ⟨v, [], rfl, r, rfl⟩
end
end Dn

set_option Elab.async false
set_option linter.all false
set_option maxRecDepth 100000
set_option autoImplicit false
set_option maxHeartbeats 4000000
namespace Dn
open PySem PySem.Spec L2
open PyProof.Rows hiding St

section
variable {X : Cx} {W : WX}
/-! ### whole numbers -/
def gI (C : Int → Int → Bool) (g : Int → Int → D) : D → D → Option D
  | .int i, .int j => if C i j = true then some (g i j) else none
  | _, _ => none
theorem opr_int {f : Value → Value → Sem Value} {C : Int → Int → Prop} {C' : Int → Int → Bool} {g : Int → Int → V} {gd : Int → Int → D} (h : OpR X f (rI C g)) (hC : ∀ i j, C' i j = true → C i j) (hg : ∀ i j F H, R (mdOf X) F H (gd i j) (g i j)) :
    OpR X f (rD (mdOf X) false (gI C' gd)) := fun pins s σ H x y v u Q I rx ry h' => by
  obtain ⟨F, d, e, r, dm, h1, h2, h3, h4⟩ := h'
  unfold gI at h3
  split at h3
  · rename_i i j
    split at h3
    · rename_i hc
      cases h3
      exact h pins s σ H x y v u Q I rx ry ⟨i, j, h1, h2, hC i j hc, h4 _ H F (.refl F H) (hg i j F H)⟩
    · cases h3
  · cases h3
theorem opr_int0 {f : Value → Value → Sem Value} {g : Int → Int → V} {gd : Int → Int → D} (h : OpR X f (rI0 g)) (hg : ∀ i j F H, R (mdOf X) F H (gd i j) (g i j)) :
    OpR X f (rD (mdOf X) false (gI (fun _ _ => true) gd)) := fun pins s σ H x y v u Q I rx ry h' => by
  obtain ⟨F, d, e, r, dm, h1, h2, h3, h4⟩ := h'
  unfold gI at h3
  split at h3
  · rename_i i j
    rw [if_pos rfl] at h3
    cases h3
    exact h pins s σ H x y v u Q I rx ry ⟨i, j, h1, h2, h4 _ H F (.refl F H) (hg i j F H)⟩
  · cases h3
def subD := gI (fun _ _ => true) fun i j => .int (i - j)
def modD := gI (fun _ j => decide (j ≠ 0)) fun i j => .int (i.fmod j)
def fdivD := gI (fun _ j => decide (j ≠ 0 ∧ j.natAbs < 1073741824)) fun i j => .int (i.fdiv j)
def powD := gI (fun i j => decide (0 ≤ j ∧ j ≤ 1000000 ∧ i.natAbs < 2 ^ 64)) fun i j => .int (i ^ j.toNat)
def shlD := gI (fun i j => decide (0 ≤ j ∧ j ≤ 1000000 ∧ i.natAbs < 2 ^ 64)) fun i j => .int (i * 2 ^ j.toNat)
def shrD := gI (fun _ j => decide (0 ≤ j)) fun i j => .int (i / 2 ^ j.toNat)
def andD := gI (fun _ _ => true) fun i j => .int (Builtin.bitAnd i j)
def ltD := gI (fun _ _ => true) fun i j => .bl (decide (i < j))
def leD := gI (fun _ _ => true) fun i j => .bl (decide (i ≤ j))
def gtD := gI (fun _ _ => true) fun i j => .bl (decide (j < i))
def geD := gI (fun _ _ => true) fun i j => .bl (decide (j ≤ i))
theorem o_sub : OpR X (binaryOp .Sub) (rD (mdOf X) false subD) := opr_int0 op_sub fun _ _ _ _ => rfl
theorem o_mod : OpR X (binaryOp .Mod) (rD (mdOf X) false modD) := opr_int op_modN (fun _ j h => show j ≠ 0 from of_decide_eq_true h) fun _ _ _ _ => rfl
theorem o_fdiv : OpR X (binaryOp .FloorDiv) (rD (mdOf X) false fdivD) := opr_int op_fdivN (fun _ j h => show j ≠ 0 ∧ j.natAbs < 1073741824 from of_decide_eq_true h) fun _ _ _ _ => rfl
theorem o_pow : OpR X (binaryOp .Pow) (rD (mdOf X) false powD) := opr_int op_pow (fun i j h => show 0 ≤ j ∧ j ≤ 1000000 ∧ i.natAbs < 2 ^ 64 from of_decide_eq_true h) fun _ _ _ _ => rfl
theorem o_shl : OpR X (binaryOp .LShift) (rD (mdOf X) false shlD) := opr_int op_shl (fun i j h => show 0 ≤ j ∧ j ≤ 1000000 ∧ i.natAbs < 2 ^ 64 from of_decide_eq_true h) fun _ _ _ _ => rfl
theorem o_shr : OpR X (binaryOp .RShift) (rD (mdOf X) false shrD) := opr_int op_shr (fun i j h => show 0 ≤ j from of_decide_eq_true h) fun _ _ _ _ => rfl
theorem o_and : OpR X (binaryOp .BitAnd) (rD (mdOf X) false andD) := opr_int0 op_and fun _ _ _ _ => rfl
theorem o_lt : OpR X (compareOp .Lt) (rD (mdOf X) false ltD) := opr_int0 op_lt fun _ _ _ _ => rfl
theorem o_le : OpR X (compareOp .LtE) (rD (mdOf X) false leD) := opr_int0 op_le fun _ _ _ _ => rfl
theorem o_gt : OpR X (compareOp .Gt) (rD (mdOf X) false gtD) := opr_int0 op_gt fun _ _ _ _ => rfl
theorem o_ge : OpR X (compareOp .GtE) (rD (mdOf X) false geD) := opr_int0 op_ge fun _ _ _ _ => rfl
/-- one of two -/
theorem OpR.cases {f : Value → Value → Sem Value} {o : Bool} {g g1 g2 : D → D → Option D} (h1 : OpR X f (rD (mdOf X) o g1)) (h2 : OpR X f (rD (mdOf X) o g2)) (hg : ∀ d e r, g d e = some r → g1 d e = some r ∨ g2 d e = some r) : OpR X f (rD (mdOf X) o g) :=
  fun pins s σ H x y v u Q I rx ry ⟨F, d, e, r, dm, a, b, c, k⟩ => (hg d e r c).elim (fun q => h1 pins s σ H x y v u Q I rx ry ⟨F, d, e, r, dm, a, b, q, k⟩) fun q => h2 pins s σ H x y v u Q I rx ry ⟨F, d, e, r, dm, a, b, q, k⟩

/-! ### + and * -/
def addI := gI (fun _ _ => true) fun i j => .int (i + j)
def addS : D → D → Option D
  | .str x, .str y => if x.length + y.length ≤ LN then some (.str (x ++ y)) else none
  | _, _ => none
def addT : D → D → Option D
  | .tup xs, .tup ys => if xs.length + ys.length ≤ LN then some (.tup (xs ++ ys)) else none
  | _, _ => none
/-- two lists -/
def addL : D → D → Option D
  | .lst xs, .lst ys => if xs.length + ys.length ≤ LN then some (.lst (xs ++ ys)) else none
  | _, _ => none
def addD : D → D → Option D
  | .int i, .int j => some (.int (i + j))
  | .str x, .str y => if x.length + y.length ≤ LN then some (.str (x ++ y)) else none
  | .tup xs, .tup ys => if xs.length + ys.length ≤ LN then some (.tup (xs ++ ys)) else none
  | .lst xs, .lst ys => if xs.length + ys.length ≤ LN then some (.lst (xs ++ ys)) else none
  | _, _ => none
theorem o_addS : OpR X (binaryOp .Add) (rD (mdOf X) false addS) := fun pins s σ H x y v u Q I rx ry h' => by
  obtain ⟨F, d, e, r, dm, h1, h2, h3, h4⟩ := h'
  unfold addS at h3
  split at h3
  · rename_i i j
    split at h3
    · rename_i hc
      cases h3
      exact op_add_str pins s σ H x y v u Q I rx ry ⟨i, j, h1, h2, by rw [line_eq]; exact hc, h4 _ H F (.refl F H) rfl⟩
    · cases h3
  · cases h3
theorem o_addT : OpR X (binaryOp .Add) (rD (mdOf X) false addT) := fun pins s σ H x y v u Q I rx ry h' => by
  obtain ⟨F, d, e, r, dm, h1, h2, h3, h4⟩ := h'
  unfold addT at h3
  split at h3
  · rename_i xs ys
    split at h3
    · rename_i hc
      cases h3
      obtain ⟨a, us, rfl, t1, r1⟩ := h1
      obtain ⟨b, ws, rfl, t2, r2⟩ := h2
      refine op_catA pins s σ H _ _ v u Q I rx ry ⟨a, b, us, ws, rfl, rfl, t1, t2, by rw [← r1.length, ← r2.length, line_eq]; exact hc, fun e => ?_, fun _ e => ?_, fun _ _ p hp => ?_⟩
      · subst e
        refine h4 _ H F (.refl F H) ⟨b, ws, rfl, t2, ?_⟩
        cases xs with
        | nil => exact r2
        | cons x xs => obtain ⟨_, _, e, _⟩ := r1; cases e
      · subst e
        refine h4 _ H F (.refl F H) ⟨a, us, rfl, t1, ?_⟩
        cases ys with
        | nil => rw [List.append_nil]; exact r1
        | cons x xs => obtain ⟨_, _, e, _⟩ := r2; cases e
      · exact h4 _ _ F (.upd hp) (R.new_tup (r1.app r2) hp)
    · cases h3
  · cases h3
/-- a list's join, not frozen -/
theorem o_addL : OpR X (binaryOp .Add) (rD (mdOf X) true addL) := fun pins s σ H x y v u Q I rx ry h' => by
  obtain ⟨F, d, e, r, dm, h1, h2, h3, h4⟩ := h'
  unfold addL at h3
  split at h3
  · rename_i xs ys
    split at h3
    · rename_i hc
      cases h3
      obtain ⟨a, us, rfl, _, t1, r1⟩ := h1
      obtain ⟨b, ws, rfl, _, t2, r2⟩ := h2
      refine op_cat pins s σ H _ _ v u Q I rx ry ⟨a, b, us, ws, rfl, rfl, t1, t2, by rw [← r1.length, ← r2.length, line_eq]; exact hc, fun p hp => ?_⟩
      exact h4 _ _ F (.upd hp) (got_new dm (r1.app r2) hp)
    · cases h3
  · cases h3
/-- what is one's own may be frozen -/
theorem OpR.frz {f : Value → Value → Sem Value} {g : D → D → Option D} (h : OpR X f (rD (mdOf X) true g)) : OpR X f (rD (mdOf X) false g) := fun pins s σ H x y v u Q I rx ry ⟨F, d, e, r, dm, a, b, c, k⟩ =>
  h pins s σ H x y v u Q I rx ry ⟨F, d, e, r, dm, a, b, c, fun v' H' F' fr ⟨p, e1, n, nf, ow⟩ => by
    subst e1
    exact k _ H' (F'.add p) (fr.add n (by obtain ⟨o, e, _⟩ := ow.there; rw [e]; exact fun z => nomatch z)) (OwnAt.frozen (OwnAt.mono (.refl F' H') (fun _ z => .inl z) rfl ow) (.inr rfl))⟩
theorem o_addI : OpR X (binaryOp .Add) (rD (mdOf X) false addI) := opr_int0 op_add fun _ _ _ _ => rfl
theorem o_add : OpR X (binaryOp .Add) (rD (mdOf X) false addD) := by
  refine OpR.cases o_addI (OpR.cases (g := fun d e => (addS d e).or ((addT d e).or (addL d e))) o_addS (OpR.cases (g := fun d e => (addT d e).or (addL d e)) o_addT (OpR.frz o_addL) ?_) ?_) ?_
  · intro d e r h
    cases q : addT d e with
    | some z => rw [q] at h; exact .inl h
    | none => rw [q] at h; exact .inr h
  · intro d e r h
    cases q : addS d e with
    | some z => rw [q] at h; exact .inl h
    | none => rw [q] at h; exact .inr h
  · intro d e r h
    unfold addD at h
    split at h
    · exact .inl h
    · exact .inr (by simp only [addS]; rw [h]; rfl)
    · exact .inr (by simp only [addS, addT]; rw [h]; rfl)
    · exact .inr (by simp only [addS, addT, addL]; rw [h]; rfl)
    · cases h
def mulI := gI (fun i j => decide ((-(2 ^ 64) < i ∧ i < 2 ^ 64) ∨ (-(2 ^ 64) < j ∧ j < 2 ^ 64))) fun i j => .int (i * j)
def mulT : D → D → Option D
  | .tup xs, .int k => if xs ≠ [] ∧ 2 ≤ k ∧ k ≤ 1000 ∧ xs.length ≤ 1000 then some (.tup (List.replicate k.toNat xs).flatten) else none
  | _, _ => none
def mulL : D → D → Option D
  | .lst xs, .int k => if -(2 ^ 63) ≤ k ∧ k < 2 ^ 63 ∧ xs.length * k.toNat ≤ LN then some (.lst (List.replicate k.toNat xs).flatten) else none
  | _, _ => none
def mulD : D → D → Option D
  | .int i, .int j => if (-(2 ^ 64) < i ∧ i < 2 ^ 64) ∨ (-(2 ^ 64) < j ∧ j < 2 ^ 64) then some (.int (i * j)) else none
  | .tup xs, .int k => if xs ≠ [] ∧ 2 ≤ k ∧ k ≤ 1000 ∧ xs.length ≤ 1000 then some (.tup (List.replicate k.toNat xs).flatten) else none
  | .lst xs, .int k => if -(2 ^ 63) ≤ k ∧ k < 2 ^ 63 ∧ xs.length * k.toNat ≤ LN then some (.lst (List.replicate k.toNat xs).flatten) else none
  | _, _ => none
theorem o_mulI : OpR X (binaryOp .Mult) (rD (mdOf X) false mulI) := opr_int op_mul (fun i j h => show (-(2 ^ 64) < i ∧ i < 2 ^ 64) ∨ (-(2 ^ 64) < j ∧ j < 2 ^ 64) from of_decide_eq_true h) fun _ _ _ _ => rfl
theorem o_mulT : OpR X (binaryOp .Mult) (rD (mdOf X) false mulT) := fun pins s σ H x y v u Q I rx ry h' => by
  obtain ⟨F, d, e, r, dm, h1, h2, h3, h4⟩ := h'
  unfold mulT at h3
  split at h3
  · rename_i xs k
    split at h3
    · rename_i hc
      cases h3
      obtain ⟨a, us, rfl, t1, r1⟩ := h1
      refine op_repT pins s σ H _ _ v u Q I rx ry ⟨a, k, us, rfl, h2, t1, fun z => hc.1 ?_, hc.2.1, hc.2.2.1, by rw [← r1.length]; exact hc.2.2.2, fun p hp => ?_⟩
      · subst z
        have := r1.length
        exact List.eq_nil_of_length_eq_zero this
      · exact h4 _ _ F (.upd hp) (R.new_tup (r1.rep _) hp)
    · cases h3
  · cases h3
theorem o_mulL : OpR X (binaryOp .Mult) (rD (mdOf X) true mulL) := fun pins s σ H x y v u Q I rx ry h' => by
  obtain ⟨F, d, e, r, dm, h1, h2, h3, h4⟩ := h'
  unfold mulL at h3
  split at h3
  · rename_i xs k
    split at h3
    · rename_i hc
      cases h3
      obtain ⟨a, us, rfl, _, t1, r1⟩ := h1
      refine op_rep pins s σ H _ _ v u Q I rx ry ⟨a, k, us, rfl, h2, t1, hc.1, hc.2.1, by rw [← r1.length, line_eq]; exact hc.2.2, fun p hp => ?_⟩
      exact h4 _ _ F (.upd hp) (got_new dm (r1.rep _) hp)
    · cases h3
  · cases h3
theorem o_mul : OpR X (binaryOp .Mult) (rD (mdOf X) false mulD) := by
  refine OpR.cases o_mulI (OpR.cases (g := fun d e => (mulT d e).or (mulL d e)) o_mulT (OpR.frz o_mulL) ?_) ?_
  · intro d e r h
    cases q : mulT d e with
    | some z => rw [q] at h; exact .inl h
    | none => rw [q] at h; exact .inr h
  · intro d e r h
    unfold mulD at h
    split at h
    · refine .inl ?_
      unfold mulI gI
      simp only [decide_eq_true_eq]
      exact h
    · exact .inr (by simp only [mulT]; rw [h]; rfl)
    · exact .inr (by simp only [mulT, mulL]; rw [h]; rfl)
    · cases h

/-! ### comparisons -/
def isD : D → D → Option D
  | d, .non => some (.bl (decide (d = .non)))
  | .bl a, .bl b => some (.bl (a == b))
  | _, _ => none
def isnotD : D → D → Option D
  | d, .non => some (.bl (!decide (d = .non)))
  | .bl a, .bl b => some (.bl (!(a == b)))
  | _, _ => none
theorem R.non_iff {M : Md} {F : Fz} {H : Hp} {d : D} {v : V} (r : R M F H d v) : decide (v = .non) = decide (d = .non) := by
  cases d with
  | non => cases r; rfl
  | bl _ => cases r; rfl
  | int _ => cases r; rfl
  | str _ => cases r; rfl
  | ty _ => cases r; rfl
  | fn _ => obtain ⟨a, rfl, _⟩ := r; rfl
  | tup _ => obtain ⟨a, _, rfl, _⟩ := r; rfl
  | lst _ => obtain ⟨a, _, rfl, _⟩ := r; rfl
  | fl _ => obtain ⟨a, _, rfl, _⟩ := r; rfl
  | dct n _ _ =>
    match n, r with
    | 0, r => obtain ⟨a, _, rfl, _⟩ := r; rfl
    | 1, r => obtain ⟨a, _, rfl, _⟩ := r; rfl
    | 2, r => obtain ⟨a, _, rfl, _⟩ := r; rfl
    | n + 3, r => exact r.elim
end
end Dn

set_option Elab.async false
set_option linter.all false
set_option maxRecDepth 100000
set_option autoImplicit false
set_option maxHeartbeats 4000000
namespace Dn
open PySem PySem.Spec L2
open PyProof.Rows hiding St

/-! ### == and in, at any depth -/
mutual
def toP : D → Option PyData
  | .non => some .none
  | .bl b => some (.bool b)
  | .int i => some (.int i)
  | .str x => if x.cps.all (· < 0x110000) then some (.str x) else none
  | .tup xs => (toPs xs).map .tuple
  | .lst xs => (toPs xs).map .list
  | .fl xs => (toPs xs).map .list
  | .ty _ => none
  | .fn _ => none
  | .dct _ _ _ => none
def toPs : List D → Option (List PyData)
  | [] => some []
  | d :: ds => (toP d).bind fun p => (toPs ds).bind fun ps => some (p :: ps)
end
section
variable {M : Md} {F : Fz} {H : Hp}
mutual
theorem toP_ok : ∀ (d : D) (v : V) (p : PyData), R M F H d v → toP d = some p → Dp M.K H v p ∧ p.canLay0 = true
  | .non, v, p, r, e => by cases (show v = _ from r); cases e; exact ⟨.non, rfl⟩
  | .bl b, v, p, r, e => by cases (show v = _ from r); cases e; exact ⟨.bl b, rfl⟩
  | .int b, v, p, r, e => by cases (show v = _ from r); cases e; exact ⟨.int b, rfl⟩
  | .str x, v, p, r, e => by
    cases (show v = _ from r)
    unfold toP at e
    split at e
    · rename_i h
      cases e
      exact ⟨.str x, h⟩
    · cases e
  | .tup ds, v, p, r, e => by
    obtain ⟨a, vs, rfl, t, r⟩ := r
    unfold toP at e
    cases q : toPs ds with
    | none => rw [q] at e; cases e
    | some ps =>
      rw [q] at e; cases e
      obtain ⟨h1, h2⟩ := toPs_ok ds vs ps r q
      exact ⟨.tup t h1, h2⟩
  | .lst ds, v, p, r, e => by
    obtain ⟨a, vs, rfl, _, t, r⟩ := r
    unfold toP at e
    cases q : toPs ds with
    | none => rw [q] at e; cases e
    | some ps =>
      rw [q] at e; cases e
      obtain ⟨h1, h2⟩ := toPs_ok ds vs ps r q
      exact ⟨.lst (.inl (.inl t)) h1, h2⟩
  | .fl ds, v, p, r, e => by
    obtain ⟨a, vs, rfl, t, r⟩ := r
    unfold toP at e
    cases q : toPs ds with
    | none => rw [q] at e; cases e
    | some ps =>
      rw [q] at e; cases e
      obtain ⟨h1, h2⟩ := toPs_ok ds vs ps r q
      exact ⟨.lst t.sq h1, h2⟩
  | .ty _, _, _, _, e => by cases e
  | .fn _, _, _, _, e => by cases e
  | .dct _ _ _, _, _, _, e => by cases e
theorem toPs_ok : ∀ (ds : List D) (vs : List V) (ps : List PyData), Rs M F H ds vs → toPs ds = some ps → DpAll M.K H vs ps ∧ PyData.canLayAll0 ps = true
  | [], vs, ps, r, e => by cases (show vs = [] from r); cases e; exact ⟨.nil, rfl⟩
  | d :: ds, vs, ps, r, e => by
    obtain ⟨v, us, rfl, h1, h2⟩ := r
    unfold toPs at e
    cases q1 : toP d with
    | none => rw [q1] at e; cases e
    | some p =>
      cases q2 : toPs ds with
      | none => rw [q1, q2] at e; cases e
      | some qs =>
        rw [q1, q2] at e; cases e
        obtain ⟨a1, a2⟩ := toP_ok d v p h1 q1
        obtain ⟨b1, b2⟩ := toPs_ok ds us qs h2 q2
        exact ⟨.cons a1 b1, by show (p.canLay0 && PyData.canLayAll0 qs) = true; rw [a2, b2]; rfl⟩
end
end
/-- data that may be compared -/
def shp (d : D) : Option PyData := (toP d).bind fun p => if p.depth ≤ 64 then some p else none
theorem shp_ok {M : Md} {F : Fz} {H : Hp} {d : D} {v : V} {p : PyData} (r : R M F H d v) (e : shp d = some p) : Dp M.K H v p ∧ SeqAt.shaped p = true := by
  unfold shp at e
  cases q : toP d with
  | none => rw [q] at e; cases e
  | some p' =>
    rw [q] at e
    change (if p'.depth ≤ 64 then some p' else none) = some p at e
    split at e
    · rename_i h
      cases e
      obtain ⟨h1, h2⟩ := toP_ok d v p r q
      exact ⟨h1, by unfold SeqAt.shaped; rw [h2, decide_eq_true h]; rfl⟩
    · cases e
def eqvD (d e : D) : Option Bool := (shp d).bind fun p => (shp e).bind fun q => some (PyData.eqv p q)
def eqD : D → D → Option D := fun d e => (eqvD d e).map .bl
def neD : D → D → Option D := fun d e => (eqvD d e).map fun b => .bl (!b)
theorem eqvD_ok {M : Md} {F : Fz} {H : Hp} {d e : D} {v u : V} {b : Bool} (r : R M F H d v) (r' : R M F H e u) (h : eqvD d e = some b) :
    ∃ p q, Dp M.K H v p ∧ Dp M.K H u q ∧ SeqAt.shaped p = true ∧ SeqAt.shaped q = true ∧ b = PyData.eqv p q := by
  unfold eqvD at h
  cases q1 : shp d with
  | none => rw [q1] at h; cases h
  | some p =>
    cases q2 : shp e with
    | none => rw [q1, q2] at h; cases h
    | some q =>
      rw [q1, q2] at h; cases h
      obtain ⟨a1, a2⟩ := shp_ok r q1
      obtain ⟨b1, b2⟩ := shp_ok r' q2
      exact ⟨p, q, a1, b1, a2, b2, rfl⟩
section
variable {X : Cx} {W : WX}
theorem o_eq (hu : X.A.units + 64 < cLine) : OpR X (compareOp .Eq) (rD (mdOf X) false eqD) := fun pins s σ H x y v u Q I rx ry h' => by
  obtain ⟨F, d, e, r, dm, h1, h2, h3, h4⟩ := h'
  unfold eqD at h3
  cases q : eqvD d e with
  | none => rw [q] at h3; cases h3
  | some b =>
    rw [q] at h3; cases h3
    obtain ⟨p, p', a1, a2, a3, a4, rfl⟩ := eqvD_ok h1 h2 q
    exact op_eqD hu pins s σ H x y v u Q I rx ry ⟨p, p', a1, a2, a3, a4, h4 _ H F (.refl F H) rfl⟩
theorem o_ne (hu : X.A.units + 64 < cLine) : OpR X (compareOp .NotEq) (rD (mdOf X) false neD) := fun pins s σ H x y v u Q I rx ry h' => by
  obtain ⟨F, d, e, r, dm, h1, h2, h3, h4⟩ := h'
  unfold neD at h3
  cases q : eqvD d e with
  | none => rw [q] at h3; cases h3
  | some b =>
    rw [q] at h3; cases h3
    obtain ⟨p, p', a1, a2, a3, a4, rfl⟩ := eqvD_ok h1 h2 q
    exact op_neD hu pins s σ H x y v u Q I rx ry ⟨p, p', a1, a2, a3, a4, h4 _ H F (.refl F H) rfl⟩
theorem o_is : OpR X (compareOp .Is) (rD (mdOf X) false isD) := fun pins s σ H x y v u Q I rx ry h' => by
  obtain ⟨F, d, e, r, dm, h1, h2, h3, h4⟩ := h'
  unfold isD at h3
  split at h3
  · rename_i d
    cases h3
    exact op_isN pins s σ H x y v u Q I rx ry ⟨h2, by rw [R.non_iff h1]; exact h4 _ H F (.refl F H) rfl⟩
  · rename_i a b
    cases h3
    refine op_isBl pins s σ H x y v u Q I rx ry ⟨a, b, h1, h2, ?_⟩
    have := h4 (.bl (a == b)) H F (.refl F H) rfl
    rw [Bool.beq_eq_decide_eq] at this
    exact this
  · cases h3
theorem o_isnot : OpR X (compareOp .IsNot) (rD (mdOf X) false isnotD) := fun pins s σ H x y v u Q I rx ry h' => by
  obtain ⟨F, d, e, r, dm, h1, h2, h3, h4⟩ := h'
  unfold isnotD at h3
  split at h3
  · rename_i d
    cases h3
    exact op_notN pins s σ H x y v u Q I rx ry ⟨h2, by rw [R.non_iff h1]; exact h4 _ H F (.refl F H) rfl⟩
  · rename_i a b
    cases h3
    refine op_notBl pins s σ H x y v u Q I rx ry ⟨a, b, h1, h2, ?_⟩
    have := h4 (.bl (!(a == b))) H F (.refl F H) rfl
    rw [Bool.beq_eq_decide_eq] at this
    exact this
  · cases h3
/-! what a dict holds -/
theorem dget_of {M : Md} {F : Fz} {H : Hp} {ks vs : List D} {n : Nat} {d : D} {v y : V} (r : R M F H (.dct n ks vs) v) (ry : R M F H d y)
    (hk : match n with
      | 0 => (keyOf d).isSome = true
      | 1 => ∃ xs ls, d = .tup xs ∧ keysOf xs = some ls ∧ ∃ b, y = .ref b ∧ H b = some (.tup (ls.map kV))
      | _ => False) :
    ∃ a, v = .ref a ∧ ∃ o, DGet H a y o ∧ (match lookD ks vs d with
      | some x => ∃ u, o = some u ∧ R M F H x u
      | none => o = none) := by
  match n, r, hk with
  | 0, r, hk =>
    obtain ⟨a, kvs, rfl, _, t, rfl, rr⟩ := r
    cases e : keyOf d with
    | none => rw [e] at hk; cases hk
    | some k =>
      have e2 := keyOf_some e
      subst e2
      rw [R_key ry]
      exact ⟨a, rfl, _, .k t, look_val (fun _ _ => keyD_inj) k rr⟩
  | 1, r, hk =>
    obtain ⟨a, kvs, rfl, _, t, rfl, rr⟩ := r
    obtain ⟨xs, ls, rfl, e, b, rfl, hb⟩ := hk
    have e2 := keysOf_some e
    subst e2
    exact ⟨a, rfl, _, .t t hb, look_val (g := fun (l : List Key) => D.tup (l.map keyD)) (fun _ _ h => keyDs_inj (D.tup.inj h)) ls rr⟩
end
end Dn

set_option Elab.async false
set_option linter.all false
set_option maxRecDepth 100000
set_option autoImplicit false
set_option maxHeartbeats 4000000
namespace Dn
open PySem PySem.Spec L2
open PyProof.Rows hiding St

/-! ### dicts whose keys are numbers and texts -/
def lookE (n : Nat) (ks vs : List D) (d : D) : Option (Option D) :=
  match n with
  | 0 => if (keyOf d).isSome then some (lookD ks vs d) else none
  | 2 => match d with
    | .str _ => some (lookD ks vs d)
    | _ => none
  | _ => none
/-- what is found: nothing, or a value that is so told -/
def FndR (M : Md) (F : Fz) (H : Hp) (f : Option Value) : Option D → Prop
  | some c => ∃ z w, f = some w ∧ RelV z w ∧ R M F H c z
  | none => f = none
theorem kd_look {M : Md} {F : Fz} {H : Hp} (z : Str) : ∀ {es : List DictEntry} {ks vs : List D} {us : List V}, Paired (fun (e : DictEntry) d => ∃ x t, e.key = .str x t ∧ d = D.str x) es ks → Vals us (es.map (·.val)) → Rs M F H vs us →
    FndR M F H ((es.find? fun e => Value.isStrOf z e.key).map (·.val)) (lookD ks vs (.str z))
  | [], _, _, _, .nil, _, _ => by unfold lookD; rfl
  | e :: es, k :: ks, vs, u :: us', .cons p q, rv, rs => by
    cases rv with
    | cons r t =>
    cases vs with
    | nil => cases (show _ = [] from rs)
    | cons v vs =>
      obtain ⟨u', us', e', h1, h2⟩ := rs
      cases e'
      obtain ⟨x, t', ek, rfl⟩ := p
      show FndR M F H (((e :: es).find? fun e => Value.isStrOf z e.key).map (·.val)) (if D.str x = D.str z then some v else lookD ks vs (.str z))
      by_cases q' : x = z
      · subst q'
        rw [if_pos rfl, List.find?_cons, ek]
        have : Value.isStrOf x (.str x t') = true := by simp [Value.isStrOf]
        rw [this]
        exact ⟨u, _, rfl, r, h1⟩
      · rw [if_neg (fun e => q' (D.str.inj e)), List.find?_cons, ek]
        have : Value.isStrOf z (.str x t') = false := by
          cases qq : Value.isStrOf z (.str x t') with
          | false => rfl
          | true =>
            obtain ⟨t2, e2⟩ := Value.isStrOf_shape (x := z) (v := .str x t') qq
            cases e2
            exact absurd rfl q'
        rw [this]
        exact kd_look z q t h2
  | e :: es, k :: ks, vs, [], .cons p q, rv, rs => by cases rv
section
variable {X : Cx} {W : WX} {pins : List (Addr × Obj)} {σ : St} {H : Hp} {s : Shared}
theorem map_of {F : Fz} {n : Nat} {ks vs : List D} {d : D} {x y : V} {v u : Value} {r : Option D} (I : Inv X pins σ H s) (h : R (mdOf X) F H (.dct n ks vs) x) (rx : RelV x v) (hd : R (mdOf X) F H d y) (ry : RelV y u) (e : lookE n ks vs d = some r) :
    ∃ (κ : Type) (_ : DecidableEq κ) (knd : KeyKind X.prog X.w κ) (k : κ) (f : κ → Option Value) (a : Addr), v = .ref a ∧ x = .ref a ∧ (a == sysModules) = false ∧ knd.is k u = true ∧ s.heap.MapOf knd a f ∧
      FndR (mdOf X) F H (f k) r := by
  match n with
  | 0 =>
    obtain ⟨a, kvs, rfl, _, t, rfl, rr⟩ := h
    cases (show v = Value.ref a from rx)
    change (if (keyOf d).isSome = true then some (lookD (kvs.map fun p => keyD p.1) vs d) else none) = some r at e
    cases ek : keyOf d with
    | none => rw [ek] at e; cases e
    | some k =>
      rw [ek] at e
      simp only [Option.isSome_some, if_true] at e
      cases e
      have e2 := keyOf_some ek
      subst e2
      rw [R_key hd] at ry
      obtain ⟨z, hz, ws, rel, dd⟩ := dk_of I.hok t
      refine ⟨Key, inferInstance, mixKind X.prog X.w, k, _, a, rfl, rfl, hz, kV_is ry, dd.mapOf, ?_⟩
      have lv := look_val (g := keyD) (fun _ _ => keyD_inj) k rr
      have rv := rel.val k
      cases q : lookD (kvs.map fun p => keyD p.1) vs (keyD k) with
      | some c =>
        rw [q] at lv
        obtain ⟨zz, e3, r3⟩ := lv
        rw [e3] at rv
        obtain ⟨w, e4, r4⟩ := RelO.some_of rv
        exact ⟨zz, w, e4, r4, r3⟩
      | none =>
        rw [q] at lv
        rw [lv] at rv
        exact RelO.none_of rv
  | 1 => cases e
  | n + 3 => cases e
  | 2 =>
    obtain ⟨a, us, rfl, ⟨es, m, hl, hk, hz, hp, hv⟩, rr⟩ := h
    cases (show v = Value.ref a from rx)
    cases d with
    | str z =>
      cases e
      cases (show y = V.str z from hd)
      obtain ⟨t, rfl⟩ := ry
      refine ⟨Str, inferInstance, strKind X.prog X.w, z, _, a, rfl, rfl, hz, strKind_is X.prog X.w z t, PySem.W.mapOf_K (prog := X.prog) (w := X.w) I.kIn hl hk, ?_⟩
      have this := kd_look z hp hv rr
      obtain ⟨es⟩ := es
      unfold findBy
      rw [List.find?_toArray]
      exact this
    | _ => cases e
/-! ### subscripts -/
def itemsD : D → Option (List D)
  | .tup xs => some xs
  | .lst xs => some xs
  | .fl xs => some xs
  | _ => none
def ixD : D → D → Option D
  | .str z, .int i => if z.length ≤ LN then (atI z.cps.toList i).map fun c => .str ⟨#[c]⟩ else none
  | .tup xs, .int i => atI xs i
  | .lst xs, .int i => atI xs i
  | .fl xs, .int i => atI xs i
  | .dct n ks vs, d => (lookE n ks vs d).bind id
  | _, _ => none
theorem o_ix : IxR X (rD (mdOf X) false ixD) := by
  intro value slice pins s σ H x y v u Q I rx ry h hs
  obtain ⟨F, d, e, r, dm, h1, h2, h3, h4⟩ := h
  unfold ixD at h3
  split at h3
  · rename_i z i
    split at h3
    · rename_i hl
      obtain ⟨c, e1, e2⟩ := Option.map_eq_some_iff.mp h3
      subst e2
      exact ix_str value slice pins s σ H x y v u Q I rx ry ⟨z, i, c, h1, h2, by rw [line_eq]; exact hl, e1, h4 _ H F (.refl F H) rfl⟩ hs
    · cases h3
  · obtain ⟨a, us, rfl, t, r1⟩ := h1
    obtain ⟨w, e1, e2⟩ := r1.at_ h3
    exact ix_tup value slice pins s σ H _ y v u Q I rx ry ⟨a, us, _, w, rfl, h2, t, e1, h4 _ H F (.refl F H) e2⟩ hs
  · obtain ⟨a, us, rfl, _, t, r1⟩ := h1
    obtain ⟨w, e1, e2⟩ := r1.at_ h3
    exact ix_list value slice pins s σ H _ y v u Q I rx ry ⟨a, us, _, w, rfl, h2, .inl (.inl t), e1, h4 _ H F (.refl F H) e2⟩ hs
  · obtain ⟨a, us, rfl, t, r1⟩ := h1
    obtain ⟨w, e1, e2⟩ := r1.at_ h3
    exact ix_list value slice pins s σ H _ y v u Q I rx ry ⟨a, us, _, w, rfl, h2, t.sq, e1, h4 _ H F (.refl F H) e2⟩ hs
  · rename_i n ks vs
    cases q : lookE n ks vs e with
    | none => rw [q] at h3; cases h3
    | some r' =>
      rw [q] at h3
      cases (show r' = some r from h3)
      obtain ⟨κ, _, knd, k, f, a, rfl, rfl, hz, hk, hm, z, w, e1, e2, e3⟩ := map_of I h1 rx h2 ry q
      exact tail_any hm.typeIs PySem.F.slot_dict_getitem.lookup (wpAny_getItem_of hk hm e1 ⟨z, H, I.tok _, e2, h4 _ H F (.refl F H) e3⟩) hs
  · cases h3
theorem dp_ix {a b : Expr} {fa fb : DS → Res D} {pos : Pos} (ha : DP X W a false fa) (hb : DP X W b false fb) (hs : PlainIx b := by intro _ _; rfl) : DP X W (.Subscript a b pos) false (p2 ixD fa fb) :=
  PE_imp (pe_ix o_ix ha hb hs) fun _ _ _ h => tOp_of h

/-! ### in -/
def inAny (d : D) (xs : List D) : Option Bool := (shp d).bind fun p => (toPs xs).bind fun ps => if PyData.depthAll ps ≤ 63 then some (ps.any fun z => PyData.eqv z p) else none
def inB : D → D → Option Bool
  | d, .tup xs => inAny d xs
  | d, .lst xs => inAny d xs
  | d, .fl xs => inAny d xs
  | .str x, .str z => match x.cps.toList with
    | [c] => some (decide (c ∈ z.cps.toList))
    | _ => none
  | d, .dct n ks vs => (lookE n ks vs d).map (·.isSome)
  | _, _ => none
def inD : D → D → Option D := fun d e => (inB d e).map .bl
def notInD : D → D → Option D := fun d e => (inB d e).map fun b => .bl (!b)
end
end Dn

set_option Elab.async false
set_option linter.all false
set_option maxRecDepth 100000
set_option autoImplicit false
set_option maxHeartbeats 4000000
namespace Dn
open PySem PySem.Spec L2
open PyProof.Rows hiding St

section
variable {X : Cx} {W : WX} {pins : List (Addr × Obj)} {σ : St} {H : Hp} {s : Shared}
theorem inAny_ok {M : Md} {F : Fz} {H : Hp} {d : D} {xs : List D} {v : V} {us : List V} {b : Bool} (r : R M F H d v) (r' : Rs M F H xs us) (h : inAny d xs = some b) :
    ∃ p ps, Dp M.K H v p ∧ DpAll M.K H us ps ∧ p.canLay0 = true ∧ PyData.canLayAll0 ps = true ∧ p.depth ≤ 64 ∧ PyData.depthAll ps ≤ 63 ∧ b = ps.any fun z => PyData.eqv z p := by
  unfold inAny at h
  cases q1 : shp d with
  | none => rw [q1] at h; cases h
  | some p =>
    cases q2 : toPs xs with
    | none => rw [q1, q2] at h; cases h
    | some ps =>
      rw [q1, q2] at h
      change (if PyData.depthAll ps ≤ 63 then some (ps.any fun z => PyData.eqv z p) else none) = some b at h
      split at h
      · rename_i hd
        cases h
        obtain ⟨a1, a2⟩ := shp_ok r q1
        obtain ⟨b1, b2⟩ := toPs_ok xs us ps r' q2
        exact ⟨p, ps, a1, b1, SeqAt.canLay_of_shaped a2, b2, SeqAt.depth_of_shaped a2, hd, rfl⟩
      · cases h
theorem list_reads {a : Addr} {us : List V} {ps : List PyData} (I : Inv X pins σ H s) (t : SqL X.K H a us) (h : DpAll X.K H us ps) : ∃ as, Reads s.heap (.ref a) (.list ps) as := Dp.reads I _ _ _ (.lst t h) rfl
theorem tuple_reads {a : Addr} {us : List V} {ps : List PyData} (I : Inv X pins σ H s) (t : SqT X.K H a us) (h : DpAll X.K H us ps) : ∃ as, Reads s.heap (.ref a) (.tuple ps) as := Dp.reads I _ _ _ (.tup t h) rfl
theorem o_inB (hu : X.A.units + 65 < cLine) : ∀ (d e : D) (F : Fz) (b : Bool) (x y : V) (v u : Value), Inv X pins σ H s → R (mdOf X) F H d x → R (mdOf X) F H e y → RelV x v → RelV y u → inB d e = some b →
    (∀ (Q : Value → Shared → Prop) (E : Value → Shared → Prop), (∀ s', Inv X pins σ H s' → Q (.bool b) s') → wpAny (model X.prog X.w) X.A (compareOp .In v u) Q E s) ∧
    ∀ (Q : Value → Shared → Prop) (E : Value → Shared → Prop), (∀ s', Inv X pins σ H s' → Q (.bool (!b)) s') → wpAny (model X.prog X.w) X.A (compareOp .NotIn v u) Q E s := by
  intro d e F b x y v u I h1 h2 rx ry h
  unfold inB at h
  split at h
  · obtain ⟨a, us, rfl, t, r1⟩ := h2
    obtain ⟨p, ps, a1, a2, c1, c2, d1, d2, rfl⟩ := inAny_ok h1 r1 h
    obtain ⟨as, ra⟩ := Dp.reads I p x v a1 rx
    cases (show u = Value.ref a from ry)
    obtain ⟨bs, rb⟩ := tuple_reads I t a2
    exact ⟨fun Q E q => SeqAt.in_tuple_reads rb ra c2 c1 (by omega) (q s I), fun Q E q => SeqAt.notIn_tuple_reads rb ra c2 c1 (by omega) (q s I)⟩
  · obtain ⟨a, us, rfl, _, t, r1⟩ := h2
    obtain ⟨p, ps, a1, a2, c1, c2, d1, d2, rfl⟩ := inAny_ok h1 r1 h
    obtain ⟨as, ra⟩ := Dp.reads I p x v a1 rx
    cases (show u = Value.ref a from ry)
    obtain ⟨bs, rb⟩ := list_reads I (.inl (.inl t)) a2
    exact ⟨fun Q E q => SeqAt.in_list_reads rb ra c2 c1 (by omega) (q s I), fun Q E q => SeqAt.notIn_list_reads rb ra c2 c1 (by omega) (q s I)⟩
  · obtain ⟨a, us, rfl, t, r1⟩ := h2
    obtain ⟨p, ps, a1, a2, c1, c2, d1, d2, rfl⟩ := inAny_ok h1 r1 h
    obtain ⟨as, ra⟩ := Dp.reads I p x v a1 rx
    cases (show u = Value.ref a from ry)
    obtain ⟨bs, rb⟩ := list_reads I t.sq a2
    exact ⟨fun Q E q => SeqAt.in_list_reads rb ra c2 c1 (by omega) (q s I), fun Q E q => SeqAt.notIn_list_reads rb ra c2 c1 (by omega) (q s I)⟩
  · rename_i z w
    split at h
    · rename_i c hc
      cases h
      have ez : z = ⟨#[c]⟩ := by
        obtain ⟨⟨l⟩⟩ := z
        exact congrArg (fun (l : List Nat) => (⟨⟨l⟩⟩ : Str)) hc
      subst ez
      cases (show x = V.str ⟨#[c]⟩ from h1)
      cases (show y = V.str w from h2)
      obtain ⟨t, rfl⟩ := rx
      obtain ⟨t', rfl⟩ := ry
      exact ⟨fun Q E q => PyProof.Rows.in_str (by rw [PySem.StrLaws.found_one]; exact q s I), fun Q E q => PyProof.Rows.notIn_str (by rw [PySem.StrLaws.found_one]; exact q s I)⟩
    · cases h
  · rename_i n ks vs
    obtain ⟨r', q, e2⟩ := Option.map_eq_some_iff.mp h
    subst e2
    obtain ⟨κ, _, knd, k, f, a, rfl, rfl, hz, hk, hm, fnd⟩ := map_of I h2 ry h1 rx q
    have e3 : (f k).isSome = r'.isSome := by
      cases r' with
      | some c => obtain ⟨z, w, e, _⟩ := fnd; rw [e]; rfl
      | none => rw [show f k = none from fnd]; rfl
    exact ⟨fun Q E q => wpAny_in_of hk hz hm (by rw [e3]; exact q _ (I.tok _)), fun Q E q => wpAny_notIn_of hk hz hm (by rw [e3]; exact q _ (I.tok _))⟩
  · cases h
theorem o_in (hu : X.A.units + 65 < cLine) : OpR X (compareOp .In) (rD (mdOf X) false inD) := fun pins s σ H x y v u Q I rx ry ⟨F, d, e, r, dm, h1, h2, h3, h4⟩ => by
  obtain ⟨b, q, rfl⟩ := Option.map_eq_some_iff.mp h3
  exact (o_inB hu d e F b x y v u I h1 h2 rx ry q).1 _ _ fun s' I' => ⟨.bl b, H, I', rfl, h4 _ H F (.refl F H) rfl⟩
theorem o_notIn (hu : X.A.units + 65 < cLine) : OpR X (compareOp .NotIn) (rD (mdOf X) false notInD) := fun pins s σ H x y v u Q I rx ry ⟨F, d, e, r, dm, h1, h2, h3, h4⟩ => by
  obtain ⟨b, q, rfl⟩ := Option.map_eq_some_iff.mp h3
  exact (o_inB hu d e F b x y v u I h1 h2 rx ry q).2 _ _ fun s' I' => ⟨.bl (!b), H, I', rfl, h4 _ H F (.refl F H) rfl⟩

/-! ### slices -/
def pPart (f : DS → Res D) : DS → Res (Option Int) := fun δ => (f δ).bind fun x => match x with
  | .int i => .ok (some i)
  | _ => .bad
def pNoPart : DS → Res (Option Int) := fun _ => .ok none
def PostO (M : Md) (W : WX) (F : Fz) (H : Hp) (σ : St) (Q : Option Int → Hp → Prop) : Res (Option Int) → Prop
  | .ok i => ∀ H' F', Fresh F H F' H' → Q i H'
  | .ex c fs => PostX M W F H σ c fs
  | .bad => False
def tPO (M : Md) (W : WX) (f : DS → Res (Option Int)) : TO := fun σ H Q => ∃ F δ, PR M F H σ δ ∧ PostO M W F H σ Q (f δ)
def DPO (X : Cx) (W : WX) (e : Option Expr) (f : DS → Res (Option Int)) : Prop := PO X e (tPO (mdOf X) W f)
end
section
variable {X : Cx} {W : WX} {e a b c : Expr} {es : List Expr} {fo fl fh : DS → Res D} {pos p2 : Pos} {o : Bool}
/-- the slice by values: lo, hi are parts -/
def rS (M : Md) (o : Bool) (g : D → Option Int → Option Int → Option D) : V → Option Int → Option Int → Hp → VK → Prop := fun x lo hi H Q => ∃ F d r, Dom F H ∧ R M F H d x ∧ g d lo hi = some r ∧ ∀ v H' F', Fresh F H F' H' → Got M o F' H H' r v → Q v H'
def slL (d : D) (lo hi : Option Int) : Option D := match d with
  | .lst xs => some (.lst (cutL xs lo hi))
  | .fl xs => some (.lst (cutL xs lo hi))
  | _ => none
def slD (d : D) (lo hi : Option Int) : Option D := match d with
  | .lst xs => some (.lst (cutL xs lo hi))
  | .fl xs => some (.lst (cutL xs lo hi))
  | .tup xs => some (.tup (cutL xs lo hi))
  | .str z => if z.length ≤ LN then some (.str (cutS z lo hi)) else none
  | _ => none
theorem cutL_whole {α : Type} {xs : List α} {lo hi : Option Int} (h : HT.sIx xs.length 0 lo = 0 ∧ HT.sIx xs.length xs.length hi = xs.length) : cutL xs lo hi = xs := by
  unfold cutL
  rw [h.1, h.2]
  simp
theorem s_list : SlR X (rS (mdOf X) true slL) := fun pins s σ H x v vl vu lo hi sl Q I rx hs pl pu ⟨F, d, r, dm, h1, h2, h3⟩ => by
  unfold slL at h2
  split at h2
  · cases h2
    obtain ⟨a, us, rfl, _, t, r1⟩ := h1
    exact sl_list pins s σ H _ v vl vu lo hi sl Q I rx hs pl pu ⟨a, us, rfl, .inl (.inl t), fun p hp => h3 _ _ F (.upd hp) (got_new dm (r1.cut lo hi) hp)⟩
  · cases h2
    obtain ⟨a, us, rfl, t, r1⟩ := h1
    exact sl_list pins s σ H _ v vl vu lo hi sl Q I rx hs pl pu ⟨a, us, rfl, t.sq, fun p hp => h3 _ _ F (.upd hp) (got_new dm (r1.cut lo hi) hp)⟩
  · cases h2
theorem got_freeze {M : Md} {F F' : Fz} {H H' : Hp} {d : D} {v : V} (fr : Fresh F H F' H') (g : Got M true F' H H' d v) : ∃ F2, Fresh F H F2 H' ∧ R M F2 H' d v := by
  obtain ⟨p, e1, n, nf, ow⟩ := g
  subst e1
  exact ⟨F'.add p, fr.add n (by obtain ⟨o, e, _⟩ := ow.there; rw [e]; exact fun z => nomatch z), OwnAt.frozen (OwnAt.mono (.refl F' H') (fun _ z => .inl z) rfl ow) (.inr rfl)⟩
theorem s_any : SlR X (rS (mdOf X) false slD) := fun pins s σ H x v vl vu lo hi sl Q I rx hs pl pu ⟨F, d, r, dm, h1, h2, h3⟩ => by
  have hl : ∀ d', slL d' lo hi = some r → R (mdOf X) F H d' x → ∃ T id, typeLookup (.type T) "__getitem__" = pure (some (.builtin id)) ∧ s.TypeIs v T ∧ wpAny (model X.prog X.w) X.A (getItem v (.ref sl)) (EP X pins σ Q) X.xe s :=
    fun d' q1 q2 => s_list pins s σ H x v vl vu lo hi sl Q I rx hs pl pu ⟨F, d', r, dm, q2, q1, fun v' H' F' fr g => let ⟨F2, f2, r2⟩ := got_freeze fr g; h3 v' H' F2 f2 r2⟩
  unfold slD at h2
  split at h2
  · rename_i xs; exact hl (.lst xs) h2 h1
  · rename_i xs; exact hl (.fl xs) h2 h1
  · rename_i xs
    cases h2
    obtain ⟨a, us, rfl, t, r1⟩ := h1
    refine sl_tupA pins s σ H _ v vl vu lo hi sl Q I rx hs pl pu ⟨a, us, rfl, t, fun w => h3 _ H F (.refl F H) ?_, fun _ p hp => h3 _ _ F (.upd hp) (R.new_tup (r1.cut lo hi) hp)⟩
    rw [← r1.length] at w
    rw [cutL_whole w]
    exact ⟨a, us, rfl, t, r1⟩
  · rename_i z
    split at h2
    · rename_i hz
      cases h2
      exact sl_str pins s σ H x v vl vu lo hi sl Q I rx hs pl pu ⟨z, h1, by rw [line_eq]; exact hz, h3 _ H F (.refl F H) rfl⟩
    · cases h2
  · cases h2
theorem PO_imp {e : Option Expr} {t t' : TO} (h : PO X e t) (i : ∀ σ H Q, t' σ H Q → t σ H Q) : PO X e t' := ⟨fun pins s σ H Q I q => h.run pins s σ H Q I (i σ H Q q)⟩
theorem dpo_none : DPO X W none pNoPart := PO_imp po_none fun σ H Q h => by
  obtain ⟨F, δ, pr, post⟩ := h
  exact post H F (.refl F H)
theorem dpo_some (h : DP X W e false fo) : DPO X W (some e) (pPart fo) := PO_imp (po_some h) fun σ H Q h => by
  obtain ⟨F, δ, pr, post⟩ := h
  refine ⟨F, δ, pr, ?_⟩
  unfold pPart at post
  cases q : fo δ with
  | bad => rw [q] at post; exact post.elim
  | ex c fs => rw [q] at post; exact post
  | ok d =>
    rw [q] at post
    cases d with
    | int i => exact fun v H' F' f r => ⟨i, r, post H' F' f⟩
    | _ => exact post.elim
def pSl (g : D → Option Int → Option Int → Option D) (fo : DS → Res D) (fl fh : DS → Res (Option Int)) : DS → Res D := fun δ => (fo δ).bind fun x => (fl δ).bind fun l => (fh δ).bind fun h => resO (g x l h)
theorem seqO {M : Md} {F : Fz} {H : Hp} {σ : St} {δ : DS} {Q : VK} {fa : DS → Res (Option Int)} {k : Option Int → Res D} (pr : PR M F H σ δ) (post : PostP M W o F H σ Q ((fa δ).bind k)) {Q1 : Option Int → Hp → Prop}
    (hk : ∀ b H1 F1, fa δ = .ok b → Fresh F H F1 H1 → PostP M W o F1 H1 σ Q (k b) → Q1 b H1) : tPO M W fa σ H Q1 := by
  refine ⟨F, δ, pr, ?_⟩
  cases e : fa δ with
  | ok d => rw [e] at post; exact fun H1 F1 f => hk d H1 F1 e f (PostP.step f post)
  | ex c fs => rw [e] at post; exact post
  | bad => rw [e] at post; exact post
theorem dp_sl {g : D → Option Int → Option Int → Option D} {lo hi : Option Expr} {gl gh : DS → Res (Option Int)} (hr : SlR X (rS (mdOf X) o g)) (ho : DP X W e false fo) (hl : DPO X W lo gl) (hh : DPO X W hi gh) :
    DP X W (.Subscript e (.Slice lo hi none p2) pos) o (pSl g fo gl gh) := by
  refine PE_imp (pe_slice hr ho hl hh) fun σ H Q h => ?_
  obtain ⟨F, δ, pr, post⟩ := h
  refine seqP (k := fun x => (gl δ).bind fun l => (gh δ).bind fun h => resO (g x l h)) pr post fun d v H1 F1 _ f1 r1 post1 => ?_
  refine seqO (k := fun l => (gh δ).bind fun h => resO (g d l h)) (pr.fr f1) post1 fun l H2 F2 _ f2 post2 => ?_
  refine seqO (k := fun h => resO (g d l h)) ((pr.fr f1).fr f2) post2 fun h H3 F3 _ f3 post3 => ?_
  cases q : g d l h with
  | none => rw [q] at post3; exact post3.elim
  | some r =>
    rw [q] at post3
    exact ⟨F3, d, r, ((pr.dom.fr f1).fr f2).fr f3, (r1.fr f2).fr f3, q, post3⟩

/-! ### calls of built-ins -/
def pCB (g : List D → Option D) (fs : DS → Res (List D)) : DS → Res D := fun δ => (fs δ).bind fun xs => resO (g xs)
variable {fs : DS → Res (List D)}
theorem tCB_of {g : List D → Option D} {σ : St} {H : Hp} {Q : VK} (h : tP (mdOf X) W o (pCB g fs) σ H Q) : tCB (rC (mdOf X) o g) (tPA (mdOf X) W fs) σ H Q := by
  obtain ⟨F, δ, pr, post⟩ := h
  refine seqA (k := fun xs => resO (g xs)) pr post fun ds vs H1 F1 _ f1 r1 post1 => ?_
  cases q : g ds with
  | none => rw [q] at post1; exact post1.elim
  | some r => rw [q] at post1; exact ⟨F1, ds, r, pr.dom.fr f1, r1, q, post1⟩
theorem dp_callB {id : String} {x : Str} {p : Pos} {g : List D → Option D} (hc : CallR X (.builtin id) (rC (mdOf X) o g)) (hg : Gl X x) (hm : X.mg x = none) (hv : bootBuiltins x = some (.builtin id)) (ha : DA X W (e :: es) fs) (hn : x ≠ "__name__" := by decide) (hdb : (x == ("__debug__" : Str)) = false := by decide)
    (he : starEach (e :: es) X.env = (false, eval e X.env) :: starEach es X.env := by rfl) (hpl : (backTo pos (starEach es X.env)).any (·.1) = false := by rfl) : DP X W (.Call (.Name x p) (e :: es) [] pos) o (pCB g fs) :=
  PE_imp (pe_callB hc hg hm hv ha hn hdb he hpl) fun _ _ _ h => tCB_of h
theorem dp_callTy {T : String} {x : Str} {p : Pos} {g : List D → Option D} (hc : CallR X (.type T) (rC (mdOf X) o g)) (hg : Gl X x) (hm : X.mg x = none) (hv : bootBuiltins x = some (.type T)) (ha : DA X W (e :: es) fs) (hn : x ≠ "__name__" := by decide) (hdb : (x == ("__debug__" : Str)) = false := by decide)
    (he : starEach (e :: es) X.env = (false, eval e X.env) :: starEach es X.env := by rfl) (hpl : (backTo pos (starEach es X.env)).any (·.1) = false := by rfl) : DP X W (.Call (.Name x p) (e :: es) [] pos) o (pCB g fs) :=
  PE_imp (pe_callTy hc hg hm hv ha hn hdb he hpl) fun _ _ _ h => tCB_of h
theorem CallR.frz {f : Value} {g : List D → Option D} (h : CallR X f (rC (mdOf X) true g)) : CallR X f (rC (mdOf X) false g) := fun pins s σ H xs us Q I rx ⟨F, ds, r, dm, a, c, k⟩ =>
  h pins s σ H xs us Q I rx ⟨F, ds, r, dm, a, c, fun v' H' F' fr g => let ⟨F2, f2, r2⟩ := got_freeze fr g; k v' H' F2 f2 r2⟩
end
end Dn

set_option Elab.async false
set_option linter.all false
set_option maxRecDepth 100000
set_option autoImplicit false
set_option maxHeartbeats 4000000
namespace Dn
open PySem PySem.Spec L2
open PyProof.Rows hiding St

/-! ### [::-1] -/
section
variable {prog : Program} {w : World} {A : Around} {E : Value → Shared → Prop} {s : Shared}
theorem rev_places (n : Nat) : Builtin.Slice.slicePlaces ((n : Int) - 1) (-1) (-1) = n := by
  unfold Builtin.Slice.slicePlaces
  rw [if_neg (by decide)]
  cases n with
  | zero => rfl
  | succ n =>
    rw [if_pos (by omega)]
    simp only [Int.neg_neg, Int.ediv_one]
    omega
theorem rev_pick {α : Type} (xs : Array α) : ((List.range xs.size).filterMap fun (k : Nat) => xs[(((xs.size : Int) - 1) + (k : Int) * (-1)).toNat]?) = xs.toList.reverse := by
  have e : ((List.range xs.size).filterMap fun (k : Nat) => xs[(((xs.size : Int) - 1) + (k : Int) * (-1)).toNat]?) = ((List.range xs.size).map fun k => xs.size - 1 - k).filterMap (fun x => xs[x]?) := by
    rw [List.filterMap_map]
    have cg : ∀ (f g : Nat → Option α) (l : List Nat), (∀ k ∈ l, f k = g k) → l.filterMap f = l.filterMap g := fun f g l => by
      induction l with
      | nil => intro _; rfl
      | cons a l ih => intro q; rw [List.filterMap_cons, List.filterMap_cons, q a List.mem_cons_self, ih fun k hk => q k (List.mem_cons_of_mem _ hk)]
    refine cg _ _ _ fun k hk => ?_
    have := List.mem_range.mp hk
    have e2 : (((xs.size : Int) - 1) + (k : Int) * (-1)).toNat = xs.size - 1 - k := by omega
    show xs[(((xs.size : Int) - 1) + (k : Int) * (-1)).toNat]? = xs[xs.size - 1 - k]?
    rw [e2]
  rw [e, PySem.W.krv_range, List.filterMap_reverse, PySem.W.krv_all]
theorem getItem_tuple_rev {t sl : Addr} {items : Array Value} {u : Tok} {Q : Value → Shared → Prop} (ht : IsTup s.heap t items) (hs : s.heap.IsSliceOf sl .none .none (.int (-1) u))
    (h : Q (.ref s.heap.objs.size) { s with heap := s.heap.push { cls := .type "tuple", data := .seq items.toList.reverse.toArray } })
    (hsz : items.size ≤ sizeLine) : wpAny (model prog w) A (getItem (.ref t) (.ref sl)) Q E s := by
  have htake : sizeOk (.seq items.toList.reverse.toArray) := by
    show items.toList.reverse.toArray.size ≤ sizeLine
    rw [List.size_toArray, List.length_reverse, Array.length_toList]
    exact hsz
  obtain ⟨os, hos, hcs, hds⟩ := id hs
  have hTs : s.TypeIs (.ref sl) "slice" := ⟨os, hos, hcs⟩
  unfold getItem
  try with_reducible refine wpAny_holding ?_
  first | refine wpAny_bind (wpAny_pure ?_) | skip
  refine wpAny_bind (wpAny_sequenceKey ht.typeIs (by decide) ?_)
  refine wpAny_bind (wpAny_callSpecial?_slot (name := Str.ofString "__getitem__") ht.typeIs PyProof.Rows.slot_tuple_getitem
    (wpAny_call_entry PyProof.Rows.slot_tuple_getitem ht.typeIs entry_tuple_getitem ?_ (args_tuple_getitem _ _)))
  show wpAny _ _ (Builtin.Tuple.tupleItemsOf (.ref t) >>= _) _ _ s
  refine wpAny_bind (tupleItemsOf_ ht ?_)
  refine wpAny_bind (wpAny_typeOf hTs ?_)
  rw [if_pos (by decide)]
  have sa : ∀ {A' : Around} {Q' : Int × Int × Nat → Shared → Prop}, Q' (((items.size : Int) - 1), -1, items.size) s → wpAny (model prog w) A' (Builtin.Slice.sliceApplied (.ref sl) (pure (items.size : Int))) Q' E s := fun {A' Q'} q => by
    unfold Builtin.Slice.sliceApplied Builtin.Slice.sliceFields
    refine wpAny_bind (wpAny_bind (wpAny_field hos hds (x := .none) rfl (wpAny_bind (wpAny_field hos hds (x := .none) rfl (wpAny_bind (wpAny_field hos hds (x := .int (-1) u) rfl (wpAny_pure ?_)))))))
    refine wpAny_bind (slicePart_int ?_)
    show wpAny _ _ (if ((-1 : Int) == 0) = true then _ else _) _ _ s
    rw [if_neg (by decide)]
    refine wpAny_bind (slicePart_none (wpAny_bind (slicePart_none (wpAny_bind (wpAny_pure ?_)))))
    show wpAny _ _ (pure (((items.size : Int) - 1), (-1 : Int), Builtin.Slice.slicePlaces ((items.size : Int) - 1) (-1) (-1))) _ _ s
    rw [rev_places]
    exact wpAny_pure q
  refine wpAny_bind (sa ?_)
  show wpAny _ _ (if (((items.size : Int) - 1) == 0 && (-1 : Int) == 1 && items.size == items.size) = true then _ else _) _ _ s
  rw [if_neg (by simp), rev_pick]
  first
    | exact wpAny_bind (m := Builtin.Tuple.tupleExact _) (wpAny_newObj_type (wpAny_pure ⟨_, rfl, wpAny_pure h⟩) htake)
    | exact wpAny_bind (m := Builtin.Tuple.tupleExact _) (wpAny_newObj_type (wpAny_bind (wpAny_pure (wpAny_pure ⟨_, rfl, wpAny_pure h⟩))) htake)
    | exact wpAny_bind (wpAny_bind (m := Builtin.Tuple.tupleExact _) (wpAny_newObj_type (wpAny_pure (wpAny_pure ⟨_, rfl, wpAny_pure h⟩)) htake))
    | exact wpAny_bind (wpAny_bind (m := Builtin.Tuple.tupleExact _) (wpAny_newObj_type (wpAny_pure ⟨_, rfl, wpAny_pure h⟩) htake))
theorem getItem_str_rev {z : Str} {t : Tok} {sl : Addr} {u : Tok} {Q : Value → Shared → Prop} (hs : s.heap.IsSliceOf sl .none .none (.int (-1) u)) (hz : z.length ≤ sizeLine)
    (h : Q (.str ⟨z.cps.toList.reverse.toArray⟩ s.toks) { s with toks := s.toks + 1 }) : wpAny (model prog w) A (getItem (.str z t) (.ref sl)) Q E s := by
  obtain ⟨os, hos, hcs, hds⟩ := hs
  refine wpAny_getItem_str_slice (l := none) (u := none) (st := some (-1, u)) ⟨os, hos, hcs, hds⟩ rfl ?_
  unfold sliceMade
  rw [if_neg (by simp)]
  have e : (List.filterMap (fun x_1 => z.cps[x_1]?) (slicePicked z none none (some (-1, u)))) = z.cps.toList.reverse := by
    have e1 : slicePicked z none none (some (-1, u)) = sliceRange ((z.cps.size : Int) - 1) (-1) (-1) := rfl
    rw [e1, PySem.W.krv_sliceRange, PySem.W.krv_range, List.filterMap_reverse, PySem.W.krv_all]
  rw [e]
  refine ⟨?_, h⟩
  show z.cps.toList.reverse.toArray.size ≤ sizeLine
  rw [List.size_toArray, List.length_reverse, Array.length_toList]
  exact hz
end
def revS (z : Str) : Str := ⟨z.cps.toList.reverse.toArray⟩
def revL : D → Option D
  | .lst xs => some (.lst xs.reverse)
  | .fl xs => some (.lst xs.reverse)
  | _ => none
def revD : D → Option D
  | .lst xs => some (.lst xs.reverse)
  | .fl xs => some (.lst xs.reverse)
  | .tup xs => some (.tup xs.reverse)
  | .str z => if z.length ≤ LN then some (.str (revS z)) else none
  | _ => none
section
variable {X : Cx} {W : WX} {e : Expr} {fo : DS → Res D}
def rU1 (M : Md) (o : Bool) (g : D → Option D) : V → Hp → VK → Prop := fun x H Q => ∃ F d r, Dom F H ∧ R M F H d x ∧ g d = some r ∧ ∀ v H' F', Fresh F H F' H' → Got M o F' H H' r v → Q v H'
theorem tU_of {o : Bool} {g : D → Option D} {σ : St} {H : Hp} {Q : VK} (h : tP (mdOf X) W o (pU g fo) σ H Q) : tUn (rU1 (mdOf X) o g) (tP (mdOf X) W false fo) σ H Q := by
  obtain ⟨F, δ, pr, post⟩ := h
  refine seqP (k := fun x => resO (g x)) pr post fun d v H1 F1 _ f1 r1 post1 => ?_
  cases q : g d with
  | none => rw [q] at post1; exact post1.elim
  | some r => rw [q] at post1; exact ⟨F1, d, r, pr.dom.fr f1, r1, q, post1⟩
theorem pe_rev {te : TE} {k : Nat} {p1 p2 p3 pos : Pos} (he : PE X e te) : PE X (.Subscript e (.Slice none none (some (.UnaryOp .USub (.Constant (.int 1) k p1) p2)) p3) pos) (tUn (rU1 (mdOf X) false revD) te) := by
  refine ⟨fun pins s σ H Q I h => ?_⟩
  refine Subscript_ (thn (he.run pins s σ H _ I h) fun v s1 ⟨x, H1, I1, r1, q1⟩ => ?_)
  have hst : PO X (some (.UnaryOp .USub (.Constant (.int 1) k p1) p2)) (tPart (tUn (rU fun i => .int (-i)) (tC (.int 1)))) := po_some (pe_un un_neg pe_int)
  refine wpAny_Slice (thn (po_none.run pins s1 σ H1 (fun o H2 => o = none ∧ H2 = H1) I1 ⟨rfl, rfl⟩) fun vl s2 ⟨l, H2, I2, pl, el, e2⟩ => ?_)
  subst el e2
  refine thn (po_none.run pins s2 σ H2 (fun o H3 => o = none ∧ H3 = H2) I2 ⟨rfl, rfl⟩) fun vu s3 ⟨u, H3, I3, pu, eu, e3⟩ => ?_
  subst eu e3
  refine thn (hst.run pins s3 σ H3 (fun o H4 => o = some (-1) ∧ H4 = H3) I3 ⟨1, rfl, -1, rfl, rfl, rfl⟩) fun vs s4 ⟨o, H4, I4, ps, eo, e4⟩ => ?_
  subst eo e4
  cases pl
  cases pu
  cases ps with
  | int _ tk =>
  have I5 : Inv X pins σ H4 { s4 with heap := s4.heap.push { cls := .type "slice", data := .fields #[.none, .none, .int (-1) tk] } } := I4.kept (t' := s4.toks) fun b ob q => Heap.get?_push_of_some _ q
  obtain ⟨F, d, r, dm, hd, hr, q⟩ := q1
  have list : ∀ (a : Addr) (us : List V) (xs : List D), x = .ref a → SqL X.K H4 a us → Rs (mdOf X) F H4 xs us → r = .lst xs.reverse →
      wpAny (model X.prog X.w) X.A (subscriptTail e (.Slice none none (some (.UnaryOp .USub (.Constant (.int 1) k p1) p2)) p3) v (.ref s4.heap.objs.size)) (EP X pins σ Q) X.xe { s4 with heap := s4.heap.push { cls := .type "slice", data := .fields #[.none, .none, .int (-1) tk] } } := by
    intro a us xs ex hx rs er
    subst ex er
    cases (show v = Value.ref a from r1)
    obtain ⟨its, rv, ht, hz⟩ := I5.list hx
    have hlen := rv.length
    refine tail_any (ops := [.ref a, .ref s4.heap.objs.size]) ht.isList.typeIs (PySem.slot_list_getitem.lookup) ?_ (by with_unfolding_all rfl)
    refine wpAny_getItem_list_slice ht.isList (Heap.IsSliceOf.new _ _ _ _) .none .none (.int (-1) tk) (by decide) ?_ (by rw [List.size_toArray]; omega)
    rw [PySem.W.krv_pick]
    have hp := I5.hok.fresh (Nat.le_refl _)
    obtain ⟨F2, f2, r2⟩ := got_freeze (.upd hp) (got_new dm rs.rev hp)
    refine ⟨.ref _, _, I5.laid (t' := s4.toks) (o := .lst us.reverse) (fun b ob q => Heap.get?_push_of_some _ q) (Nat.le_refl _) ?_, rfl, q _ _ F2 f2 r2⟩
    exact ⟨by rw [List.length_reverse]; exact hz, _, 0, rv.reverse, Heap.get?_push_size _ rfl⟩
  show wpAny (model X.prog X.w) X.A (subscriptTail e (.Slice none none (some (.UnaryOp .USub (.Constant (.int 1) k p1) p2)) p3) v (.ref s4.heap.objs.size)) (EP X pins σ Q) X.xe _
  unfold revD at hr
  split at hr
  · cases hr
    obtain ⟨a, us, ex, _, t, rs⟩ := hd
    exact list a us _ ex (.inl (.inl t)) rs rfl
  · cases hr
    obtain ⟨a, us, ex, t, rs⟩ := hd
    exact list a us _ ex t.sq rs rfl
  · cases hr
    obtain ⟨a, us, ex, t, rs⟩ := hd
    subst ex
    cases (show v = Value.ref a from r1)
    obtain ⟨its, rv, ht, hz⟩ := I5.tuple t
    have hlen := rv.length
    refine tail_any (ops := [.ref a, .ref s4.heap.objs.size]) ht.typeIs (PyProof.Rows.slot_tuple_getitem.lookup) ?_ (by with_unfolding_all rfl)
    have hp := I5.hok.fresh (Nat.le_refl _)
    refine getItem_tuple_rev ht (Heap.IsSliceOf.new _ _ _ _) ?_ (by rw [List.size_toArray]; omega)
    refine ⟨.ref _, _, I5.laid (t' := s4.toks) (o := .tup us.reverse) (fun b ob q => Heap.get?_push_of_some _ q) (Nat.le_refl _) ?_, rfl, q _ _ F (.upd hp) (R.new_tup rs.rev hp)⟩
    exact ⟨by rw [List.length_reverse]; exact hz, _, rv.reverse, ⟨_, Heap.get?_push_size _ rfl, rfl, _, rfl⟩⟩
  · rename_i z
    split at hr
    · rename_i hz
      cases hr
      cases (show x = V.str z from hd)
      obtain ⟨tz, rfl⟩ := r1
      refine tail_any (ops := [.ref s4.heap.objs.size, .str z tz]) (typeIs_str _ _ _) (PySem.F.slot_str_getitem.lookup) ?_ (by with_unfolding_all rfl)
      refine getItem_str_rev (Heap.IsSliceOf.new _ _ _ _) (by rw [line_eq]; exact hz) ?_
      exact ⟨.str (revS z), H4, I5.tok _, ⟨_, rfl⟩, q _ H4 F (.refl F H4) rfl⟩
    · cases hr
  · cases hr
theorem dp_rev {k : Nat} {p1 p2 p3 pos : Pos} (he : DP X W e false fo) : DP X W (.Subscript e (.Slice none none (some (.UnaryOp .USub (.Constant (.int 1) k p1) p2)) p3) pos) false (pU revD fo) :=
  PE_imp (pe_rev he) fun _ _ _ h => tU_of h
def negD : D → Option D
  | .int i => some (.int (-i))
  | _ => none
theorem dp_neg {pos : Pos} (he : DP X W e false fo) : DP X W (.UnaryOp .USub e pos) false (pU negD fo) := PE_imp (pe_un (r := rU1 (mdOf X) false negD) (fun pins s σ H x v Q I rx ⟨F, d, r, dm, hd, hr, q⟩ => by
      unfold negD at hr
      split at hr
      · cases hr
        exact un_neg pins s σ H x v Q I rx ⟨_, hd, q _ H F (.refl F H) rfl⟩
      · cases hr) he) fun _ _ _ h => tU_of h
end
end Dn

set_option Elab.async false
set_option linter.all false
set_option maxRecDepth 100000
set_option autoImplicit false
set_option maxHeartbeats 4000000
namespace Dn
open PySem PySem.Spec L2
open PyProof.Rows hiding St

section
variable {M : Md} {F : Fz} {H : Hp}
theorem Rs.one {d : D} {xs : List V} (h : Rs M F H [d] xs) : ∃ v, xs = [v] ∧ R M F H d v := by
  obtain ⟨v, r, rfl, h1, h2⟩ := h
  cases (show r = [] from h2)
  exact ⟨v, rfl, h1⟩
theorem Rs.two {d e : D} {xs : List V} (h : Rs M F H [d, e] xs) : ∃ v u, xs = [v, u] ∧ R M F H d v ∧ R M F H e u := by
  obtain ⟨v, r, rfl, h1, h2⟩ := h
  obtain ⟨u, rfl, h3⟩ := h2.one
  exact ⟨v, u, rfl, h1, h3⟩
def intsOf : List D → Option (List Int)
  | [] => some []
  | .int i :: ds => (intsOf ds).map (i :: ·)
  | _ :: _ => none
theorem Rs.ints : ∀ {ds : List D} {vs : List V} {ns : List Int}, Rs M F H ds vs → intsOf ds = some ns → vs = ns.map V.int
  | [], _, _, h, e => by cases (show _ = [] from h); cases e; rfl
  | .int i :: ds, _, _, h, e => by
    obtain ⟨v, r, rfl, h1, h2⟩ := h
    unfold intsOf at e
    obtain ⟨ms, e1, rfl⟩ := Option.map_eq_some_iff.mp e
    cases (show v = V.int i from h1)
    rw [Rs.ints h2 e1]; rfl
  | .non :: _, _, _, _, e => by cases e
  | .bl _ :: _, _, _, _, e => by cases e
  | .str _ :: _, _, _, _, e => by cases e
  | .ty _ :: _, _, _, _, e => by cases e
  | .fn _ :: _, _, _, _, e => by cases e
  | .tup _ :: _, _, _, _, e => by cases e
  | .lst _ :: _, _, _, _, e => by cases e
  | .fl _ :: _, _, _, _, e => by cases e
  | .dct _ _ _ :: _, _, _, _, e => by cases e
def blsOf : List D → Option (List Bool)
  | [] => some []
  | .bl i :: ds => (blsOf ds).map (i :: ·)
  | _ :: _ => none
theorem Rs.bls : ∀ {ds : List D} {vs : List V} {ns : List Bool}, Rs M F H ds vs → blsOf ds = some ns → vs = ns.map V.bl
  | [], _, _, h, e => by cases (show _ = [] from h); cases e; rfl
  | .bl i :: ds, _, _, h, e => by
    obtain ⟨v, r, rfl, h1, h2⟩ := h
    unfold blsOf at e
    obtain ⟨ms, e1, rfl⟩ := Option.map_eq_some_iff.mp e
    cases (show v = V.bl i from h1)
    rw [Rs.bls h2 e1]; rfl
  | .non :: _, _, _, _, e => by cases e
  | .int _ :: _, _, _, _, e => by cases e
  | .str _ :: _, _, _, _, e => by cases e
  | .ty _ :: _, _, _, _, e => by cases e
  | .fn _ :: _, _, _, _, e => by cases e
  | .tup _ :: _, _, _, _, e => by cases e
  | .lst _ :: _, _, _, _, e => by cases e
  | .fl _ :: _, _, _, _, e => by cases e
  | .dct _ _ _ :: _, _, _, _, e => by cases e
end
/-- a list that is told is there to be read -/
theorem R.sql {M : Md} {F : Fz} {H : Hp} {d : D} {v : V} {xs : List D} (r : R M F H d v) (e : d = .lst xs ∨ d = .fl xs) : ∃ a us, v = .ref a ∧ SqL M.K H a us ∧ Rs M F H xs us := by
  rcases e with rfl | rfl
  · obtain ⟨a, us, rfl, _, t, rs⟩ := r; exact ⟨a, us, rfl, .inl (.inl t), rs⟩
  · obtain ⟨a, us, rfl, t, rs⟩ := r; exact ⟨a, us, rfl, t.sq, rs⟩
section
variable {X : Cx} {W : WX}
def lenD : List D → Option D
  | [.str x] => if x.length ≤ LN then some (.int x.length) else none
  | [.tup xs] => some (.int xs.length)
  | [.lst xs] => some (.int xs.length)
  | [.fl xs] => some (.int xs.length)
  | [.dct 0 ks _] => some (.int ks.length)
  | _ => none
theorem c_len : CallR X (.builtin "len") (rC (mdOf X) false lenD) := by
  intro pins s σ H xs us Q I rx ⟨F, ds, r, dm, h1, h2, h3⟩
  unfold lenD at h2
  split at h2
  · rename_i x
    split at h2
    · rename_i hl
      cases h2
      obtain ⟨v, rfl, r1⟩ := h1.one
      cases (show v = V.str x from r1)
      exact call_len_str pins s σ H _ us Q I rx ⟨x, rfl, by rw [line_eq]; exact hl, h3 _ H F (.refl F H) rfl⟩
    · cases h2
  · cases h2
    obtain ⟨v, rfl, r1⟩ := h1.one
    obtain ⟨a, ws, rfl, t, rs⟩ := r1
    exact call_len_seq pins s σ H _ us Q I rx ⟨a, ws, rfl, .inr t, by rw [← rs.length]; exact h3 _ H F (.refl F H) rfl⟩
  · cases h2
    obtain ⟨v, rfl, r1⟩ := h1.one
    obtain ⟨a, ws, rfl, t, rs⟩ := r1.sql (.inl rfl)
    exact call_len_seq pins s σ H _ us Q I rx ⟨a, ws, rfl, .inl t, by rw [← rs.length]; exact h3 _ H F (.refl F H) rfl⟩
  · cases h2
    obtain ⟨v, rfl, r1⟩ := h1.one
    obtain ⟨a, ws, rfl, t, rs⟩ := r1.sql (.inr rfl)
    exact call_len_seq pins s σ H _ us Q I rx ⟨a, ws, rfl, .inl t, by rw [← rs.length]; exact h3 _ H F (.refl F H) rfl⟩
  · cases h2
    obtain ⟨v, rfl, r1⟩ := h1.one
    obtain ⟨a, kvs, rfl, _, t, rfl, rs⟩ := r1
    cases rx with
    | cons r2 r3 =>
    cases r3
    cases r2
    refine d_len I (.inl t) fun tk s' I' => ⟨.int (kvs.length : Nat), H, I', ⟨tk, rfl⟩, ?_⟩
    have := h3 (.int ((kvs.map fun (p : Key × V) => keyD p.1).length : Nat)) H F (.refl F H) rfl
    rw [List.length_map] at this
    exact this
  · cases h2
def absD : List D → Option D
  | [.int i] => some (.int (if i < 0 then -i else i))
  | _ => none
theorem c_abs : CallR X (.builtin "abs") (rC (mdOf X) false absD) := by
  intro pins s σ H xs us Q I rx ⟨F, ds, r, dm, h1, h2, h3⟩
  unfold absD at h2
  split at h2
  · cases h2
    obtain ⟨v, rfl, r1⟩ := h1.one
    cases (show v = V.int _ from r1)
    exact call_abs pins s σ H _ us Q I rx ⟨_, rfl, h3 _ H F (.refl F H) rfl⟩
  · cases h2
def intD : List D → Option D
  | [.int i] => some (.int i)
  | [.bl b] => some (.int (if b then 1 else 0))
  | _ => none
theorem c_int : CallR X (.type "int") (rC (mdOf X) false intD) := by
  intro pins s σ H xs us Q I rx ⟨F, ds, r, dm, h1, h2, h3⟩
  unfold intD at h2
  split at h2
  · cases h2
    obtain ⟨v, rfl, r1⟩ := h1.one
    cases (show v = V.int _ from r1)
    exact call_int1 pins s σ H _ us Q I rx (.inl ⟨_, rfl, h3 _ H F (.refl F H) rfl⟩)
  · cases h2
    obtain ⟨v, rfl, r1⟩ := h1.one
    cases (show v = V.bl _ from r1)
    exact call_int1 pins s σ H _ us Q I rx (.inr ⟨_, rfl, h3 _ H F (.refl F H) rfl⟩)
  · cases h2
def maxI : List Int → Option Int
  | [] => none
  | x :: xs => some (xs.foldl max x)
def minI : List Int → Option Int
  | [] => none
  | x :: xs => some (xs.foldl min x)
theorem foldl_max (xs : List Int) : ∀ x : Int, xs.foldl max x ∈ x :: xs ∧ ∀ y ∈ x :: xs, y ≤ xs.foldl max x := by
  induction xs with
  | nil => intro x; exact ⟨List.mem_cons_self, fun y h => by simp at h; subst h; exact Int.le_refl _⟩
  | cons a xs ih =>
    intro x
    obtain ⟨h1, h2⟩ := ih (max x a)
    refine ⟨?_, fun y h => ?_⟩
    · rcases List.mem_cons.mp h1 with h | h
      · rw [List.foldl_cons, h]
        rcases Int.le_total x a with q | q
        · rw [Int.max_eq_right q]; simp
        · rw [Int.max_eq_left q]; simp
      · exact List.mem_cons_of_mem _ (List.mem_cons_of_mem _ h)
    · have h3 := h2 (max x a) List.mem_cons_self
      rcases List.mem_cons.mp h with rfl | h
      · exact Int.le_trans (Int.le_max_left y a) h3
      · rcases List.mem_cons.mp h with rfl | h
        · exact Int.le_trans (Int.le_max_right x y) h3
        · exact h2 y (List.mem_cons_of_mem _ h)
theorem foldl_min (xs : List Int) : ∀ x : Int, xs.foldl min x ∈ x :: xs ∧ ∀ y ∈ x :: xs, xs.foldl min x ≤ y := by
  induction xs with
  | nil => intro x; exact ⟨List.mem_cons_self, fun y h => by simp at h; subst h; exact Int.le_refl _⟩
  | cons a xs ih =>
    intro x
    obtain ⟨h1, h2⟩ := ih (min x a)
    refine ⟨?_, fun y h => ?_⟩
    · rcases List.mem_cons.mp h1 with h | h
      · rw [List.foldl_cons, h]
        rcases Int.le_total x a with q | q
        · rw [Int.min_eq_left q]; simp
        · rw [Int.min_eq_right q]; simp
      · exact List.mem_cons_of_mem _ (List.mem_cons_of_mem _ h)
    · have h3 := h2 (min x a) List.mem_cons_self
      rcases List.mem_cons.mp h with rfl | h
      · exact Int.le_trans h3 (Int.min_le_left y a)
      · rcases List.mem_cons.mp h with rfl | h
        · exact Int.le_trans h3 (Int.min_le_right x y)
        · exact h2 y (List.mem_cons_of_mem _ h)
def maxD : List D → Option D
  | [.int i, .int j] => some (.int (if j > i then j else i))
  | [.lst xs] => (intsOf xs).bind fun ns => (maxI ns).map .int
  | _ => none
def minD : List D → Option D
  | [.int i, .int j] => some (.int (if j < i then j else i))
  | [.lst xs] => (intsOf xs).bind fun ns => (minI ns).map .int
  | _ => none
theorem c_max (hc : X.calm = true) : CallR X (.builtin "max") (rC (mdOf X) false maxD) := by
  intro pins s σ H xs us Q I rx ⟨F, ds, r, dm, h1, h2, h3⟩
  unfold maxD at h2
  split at h2
  · cases h2
    obtain ⟨v, u, rfl, r1, r2⟩ := h1.two
    cases (show v = V.int _ from r1)
    cases (show u = V.int _ from r2)
    exact call_max2 hc pins s σ H _ us Q I rx ⟨_, _, rfl, h3 _ H F (.refl F H) rfl⟩
  · rename_i ys
    obtain ⟨v, rfl, r1⟩ := h1.one
    obtain ⟨a, ws, rfl, t, rs⟩ := r1.sql (.inl rfl)
    cases q : intsOf ys with
    | none => rw [q] at h2; cases h2
    | some ns =>
      rw [q] at h2
      obtain ⟨m, e1, e2⟩ := Option.map_eq_some_iff.mp h2
      subst e2
      rw [rs.ints q] at t
      cases ns with
      | nil => cases e1
      | cons n ns =>
        cases e1
        refine cr_max hc pins s σ H _ us Q I rx ⟨a, _, rfl, t, Nat.succ_pos _, fun m hm hle => ?_⟩
        obtain ⟨k1, k2⟩ := foldl_max ns n
        have e : m = ns.foldl max n := Int.le_antisymm (k2 m hm) (hle _ k1)
        subst e
        exact h3 _ H F (.refl F H) rfl
  · cases h2
theorem c_min (hc : X.calm = true) : CallR X (.builtin "min") (rC (mdOf X) false minD) := by
  intro pins s σ H xs us Q I rx ⟨F, ds, r, dm, h1, h2, h3⟩
  unfold minD at h2
  split at h2
  · cases h2
    obtain ⟨v, u, rfl, r1, r2⟩ := h1.two
    cases (show v = V.int _ from r1)
    cases (show u = V.int _ from r2)
    exact call_min2 hc pins s σ H _ us Q I rx ⟨_, _, rfl, h3 _ H F (.refl F H) rfl⟩
  · rename_i ys
    obtain ⟨v, rfl, r1⟩ := h1.one
    obtain ⟨a, ws, rfl, t, rs⟩ := r1.sql (.inl rfl)
    cases q : intsOf ys with
    | none => rw [q] at h2; cases h2
    | some ns =>
      rw [q] at h2
      obtain ⟨m, e1, e2⟩ := Option.map_eq_some_iff.mp h2
      subst e2
      rw [rs.ints q] at t
      cases ns with
      | nil => cases e1
      | cons n ns =>
        cases e1
        refine cr_min hc pins s σ H _ us Q I rx ⟨a, _, rfl, t, Nat.succ_pos _, fun m hm hle => ?_⟩
        obtain ⟨k1, k2⟩ := foldl_min ns n
        have e : m = ns.foldl min n := Int.le_antisymm (hle _ k1) (k2 m hm)
        subst e
        exact h3 _ H F (.refl F H) rfl
  · cases h2
def sumD : List D → Option D
  | [.lst xs] => (intsOf xs).map fun ns => .int ns.sum
  | _ => none
theorem c_sum (hc : X.calm = true) : CallR X (.builtin "sum") (rC (mdOf X) false sumD) := by
  intro pins s σ H xs us Q I rx ⟨F, ds, r, dm, h1, h2, h3⟩
  unfold sumD at h2
  split at h2
  · obtain ⟨ns, e1, e2⟩ := Option.map_eq_some_iff.mp h2
    subst e2
    obtain ⟨v, rfl, r1⟩ := h1.one
    obtain ⟨a, ws, rfl, t, rs⟩ := r1.sql (.inl rfl)
    rw [rs.ints e1] at t
    exact cr_sum hc pins s σ H _ us Q I rx ⟨a, ns, rfl, t, h3 _ H F (.refl F H) rfl⟩
  · cases h2
def allD : List D → Option D
  | [.lst xs] => (blsOf xs).map fun ns => .bl (ns.all id)
  | _ => none
def anyD : List D → Option D
  | [.lst xs] => (blsOf xs).map fun ns => .bl (ns.any id)
  | _ => none
theorem c_all (hc : X.calm = true) : CallR X (.builtin "all") (rC (mdOf X) false allD) := by
  intro pins s σ H xs us Q I rx ⟨F, ds, r, dm, h1, h2, h3⟩
  unfold allD at h2
  split at h2
  · obtain ⟨ns, e1, e2⟩ := Option.map_eq_some_iff.mp h2
    subst e2
    obtain ⟨v, rfl, r1⟩ := h1.one
    obtain ⟨a, ws, rfl, t, rs⟩ := r1.sql (.inl rfl)
    rw [rs.bls e1] at t
    exact cr_all hc pins s σ H _ us Q I rx ⟨a, ns, rfl, t, h3 _ H F (.refl F H) rfl⟩
  · cases h2
theorem c_any (hc : X.calm = true) : CallR X (.builtin "any") (rC (mdOf X) false anyD) := by
  intro pins s σ H xs us Q I rx ⟨F, ds, r, dm, h1, h2, h3⟩
  unfold anyD at h2
  split at h2
  · obtain ⟨ns, e1, e2⟩ := Option.map_eq_some_iff.mp h2
    subst e2
    obtain ⟨v, rfl, r1⟩ := h1.one
    obtain ⟨a, ws, rfl, t, rs⟩ := r1.sql (.inl rfl)
    rw [rs.bls e1] at t
    exact cr_any hc pins s σ H _ us Q I rx ⟨a, ns, rfl, t, h3 _ H F (.refl F H) rfl⟩
  · cases h2
def tupleD : List D → Option D
  | [.lst xs] => some (.tup xs)
  | [.fl xs] => some (.tup xs)
  | [.tup xs] => some (.tup xs)
  | _ => none
theorem c_tuple : CallR X (.type "tuple") (rC (mdOf X) false tupleD) := by
  intro pins s σ H xs us Q I rx ⟨F, ds, r, dm, h1, h2, h3⟩
  unfold tupleD at h2
  split at h2
  · cases h2
    obtain ⟨v, rfl, r1⟩ := h1.one
    obtain ⟨a, ws, rfl, t, rs⟩ := r1.sql (.inl rfl)
    exact call_tuple_of pins s σ H _ us Q I rx ⟨a, ws, rfl, .inl ⟨t, fun l hl => h3 _ _ F (.upd hl) (R.new_tup rs hl)⟩⟩
  · cases h2
    obtain ⟨v, rfl, r1⟩ := h1.one
    obtain ⟨a, ws, rfl, t, rs⟩ := r1.sql (.inr rfl)
    exact call_tuple_of pins s σ H _ us Q I rx ⟨a, ws, rfl, .inl ⟨t, fun l hl => h3 _ _ F (.upd hl) (R.new_tup rs hl)⟩⟩
  · cases h2
    obtain ⟨v, rfl, r1⟩ := h1.one
    obtain ⟨a, ws, rfl, t, rs⟩ := r1
    exact call_tuple_of pins s σ H _ us Q I rx ⟨a, ws, rfl, .inr ⟨t, h3 _ H F (.refl F H) ⟨a, ws, rfl, t, rs⟩⟩⟩
  · cases h2
def listD : List D → Option D
  | [.lst xs] => some (.lst xs)
  | [.fl xs] => some (.lst xs)
  | [.tup xs] => some (.lst xs)
  | _ => none
theorem c_list : CallR X (.type "list") (rC (mdOf X) true listD) := by
  intro pins s σ H xs us Q I rx ⟨F, ds, r, dm, h1, h2, h3⟩
  unfold listD at h2
  split at h2
  · cases h2
    obtain ⟨v, rfl, r1⟩ := h1.one
    obtain ⟨a, ws, rfl, t, rs⟩ := r1.sql (.inl rfl)
    exact call_list_of pins s σ H _ us Q I rx ⟨a, ws, rfl, .inl t, fun l hl => h3 _ _ F (.upd hl) (got_new dm rs hl)⟩
  · cases h2
    obtain ⟨v, rfl, r1⟩ := h1.one
    obtain ⟨a, ws, rfl, t, rs⟩ := r1.sql (.inr rfl)
    exact call_list_of pins s σ H _ us Q I rx ⟨a, ws, rfl, .inl t, fun l hl => h3 _ _ F (.upd hl) (got_new dm rs hl)⟩
  · cases h2
    obtain ⟨v, rfl, r1⟩ := h1.one
    obtain ⟨a, ws, rfl, t, rs⟩ := r1
    exact call_list_of pins s σ H _ us Q I rx ⟨a, ws, rfl, .inr t, fun l hl => h3 _ _ F (.upd hl) (got_new dm rs hl)⟩
  · cases h2

/-! ### isinstance -/
def tyName : D → Option String
  | .non => some "NoneType"
  | .bl _ => some "bool"
  | .int _ => some "int"
  | .str _ => some "str"
  | .tup _ => some "tuple"
  | .lst _ => some "list"
  | .fl _ => some "list"
  | .dct _ _ _ => some "dict"
  | _ => none
def isiB (a b : String) : Option Bool :=
  if a = b then some true else if b ∈ ["int", "bool", "str", "tuple", "list", "dict"] ∧ a ∈ ["NoneType", "bool", "int", "str", "tuple", "list", "dict"] then some (a == "bool" && b == "int") else none
theorem isiB_kit {a b : String} {r : Bool} (h : isiB a b = some r) : kitB a b = some r := by
  unfold isiB at h
  by_cases e : a = b
  · subst e
    rw [if_pos rfl] at h
    cases h
    unfold kitB
    rw [if_pos (by simp)]
  · rw [if_neg e] at h
    split at h
    · rename_i q
      obtain ⟨q1, q2⟩ := q
      cases h
      simp only [List.mem_cons, List.not_mem_nil, or_false] at q1 q2
      rcases q1 with rfl | rfl | rfl | rfl | rfl | rfl <;> rcases q2 with rfl | rfl | rfl | rfl | rfl | rfl | rfl <;> first | (exfalso; exact e rfl) | decide +kernel
    · cases h
theorem tyX_of {M : Md} {F : Fz} {H : Hp} : ∀ {d : D} {v : V} {T : String}, R M F H d v → tyName d = some T → TyX M.K H v (.type T)
  | .non, v, _, r, e => by cases (show v = _ from r); cases e; exact .base .non
  | .bl _, v, _, r, e => by cases (show v = _ from r); cases e; exact .base (.bl _)
  | .int _, v, _, r, e => by cases (show v = _ from r); cases e; exact .base (.int _)
  | .str _, v, _, r, e => by cases (show v = _ from r); cases e; exact .base (.str _)
  | .tup _, v, _, r, e => by
    obtain ⟨a, us, rfl, t, _⟩ := r
    cases e
    rcases t with (t | ⟨o, t⟩) | ⟨o, _, _, lk, c, _⟩
    · exact .base (.tup t)
    · exact .fTuple t
    · exact .kTuple lk c
  | .lst _, v, _, r, e => by
    obtain ⟨a, us, rfl, _, t, _⟩ := r
    cases e
    exact .base (.lst t)
  | .fl _, v, _, r, e => by
    obtain ⟨a, us, rfl, t, _⟩ := r
    cases e
    rcases t with ⟨o, t⟩ | ⟨o, _, _, lk, c, _⟩
    · exact .base (.frz t)
    · exact .kList lk c
  | .dct 0 _ _, v, _, r, e => by
    obtain ⟨a, us, rfl, _, t, _⟩ := r
    cases e
    exact .base (.dK t)
  | .dct 1 _ _, v, _, r, e => by
    obtain ⟨a, us, rfl, _, t, _⟩ := r
    cases e
    exact .base (.dT t)
  | .dct 2 _ _, v, _, r, e => by
    obtain ⟨a, us, rfl, ⟨es, n, lk, _⟩, _⟩ := r
    cases e
    exact .kDict lk rfl
  | .dct (n + 3) _ _, _, _, r, _ => r.elim
  | .ty _, _, _, _, e => by cases e
  | .fn _, _, _, _, e => by cases e
def isi1D : List D → Option D
  | [d, .ty b] => (tyName d).bind fun a => (isiB a b).map .bl
  | _ => none
theorem c_isi : CallR X (.builtin "isinstance") (rC (mdOf X) false isi1D) := by
  intro pins s σ H xs us Q I rx ⟨F, ds, r, dm, h1, h2, h3⟩
  unfold isi1D at h2
  split at h2
  · rename_i d b
    obtain ⟨v, u, rfl, r1, r2⟩ := h1.two
    cases (show u = V.ty b from r2)
    cases q : tyName d with
    | none => rw [q] at h2; cases h2
    | some a =>
      rw [q] at h2
      obtain ⟨k, e1, rfl⟩ := Option.map_eq_some_iff.mp h2
      exact call_isi pins s σ H _ us Q I rx ⟨v, .ty b, _, _, k, rfl, .ty b, tyX_of r1 q, kit_ty (isiB_kit e1), h3 _ H F (.refl F H) rfl⟩
  · cases h2
theorem dp_ty {x : Str} {n : String} {pos : Pos} (hg : Gl X x) (hm : X.mg x = none) (hv : bootBuiltins x = some (.type n)) (hn : x ≠ "__name__" := by decide) (hd : (x == ("__debug__" : Str)) = false := by decide) : DP X W (.Name x pos) false (pC (.ty n)) :=
  dp_c (pe_bltn hg hm hv (v := .ty n) rfl hn hd) fun _ _ => rfl
end
end Dn

set_option Elab.async false
set_option linter.all false
set_option maxRecDepth 100000
set_option autoImplicit false
set_option maxHeartbeats 4000000
namespace Dn
open PySem PySem.Spec L2
open PyProof.Rows hiding St

/-! ### what is walked -/
inductive Src where
  | l (a : Addr) (vs : List V) | t (a : Addr) (vs : List V) | s (x : Str)
namespace Src
def v : Src → V
  | .l a _ => .ref a
  | .t a _ => .ref a
  | .s x => .str x
def items : Src → List V
  | .l _ vs => vs
  | .t _ vs => vs
  | .s x => x.cps.toList.map fun c => .str ⟨#[c]⟩
def ok (K : PySem.W.Frag) (H : Hp) : Src → Prop
  | .l a vs => SqL K H a vs
  | .t a vs => SqT K H a vs
  | .s _ => True
def At (b : Addr) : Src → Prop
  | .l a _ => b = a
  | .t a _ => b = a
  | .s _ => False
def It (tk : Tok) (it : Addr) (i : Nat) (h : Heap) : Src → Prop
  | .l a _ => h.IsListIter it a i
  | .t a _ => h.IsTupleIter it a i
  | .s x => h.IsStrIter it (strIterType x) x tk i
section
variable {X : Cx} {pins : List (Addr × Obj)} {σ : L2.St} {H : Hp} {s : Shared}
theorem draw {src : Src} {tk : Tok} {it : Addr} (I : Inv X pins σ H s) (o : src.ok X.K H) (ap : ¬ src.At it) (A : Around) (hh : A.handled = none) :
    ∃ (fpx : List Addr) (P : Nat → Value → Prop) (S : Nat → Heap → Prop), Draws X.prog X.w A it (it :: fpx) src.items.length P S ∧ (∀ i, src.It tk it i s.heap → S i s.heap) ∧ (∀ i h, S i h → src.It tk it i h) ∧
      (∀ i v, P i v → ∃ d, src.items[i]? = some d ∧ RelV d v) ∧ (∀ b ∈ fpx, src.At b) := by
  cases src with
  | l a vs =>
    obtain ⟨its, rv, p, hz⟩ := I.list o
    have D := Draws.list (prog := X.prog) (w := X.w) hh it a (fun e => ap e.symm) its.toArray
    have hn : its.toArray.size = vs.length := by rw [List.size_toArray]; exact rv.length.symm
    rw [hn] at D
    refine ⟨[a], _, _, D, fun i st => ⟨st, p.isList⟩, fun i h st => st.1, fun i v e => ?_, fun b hb => show b = a from by simpa using hb⟩
    have e' : its[i]? = some v := by simpa using e
    cases q : vs[i]? with
    | none =>
      have := rv.none_of q
      rw [e'] at this; cases this
    | some d =>
      obtain ⟨u, h1, h2⟩ := rv.get q
      rw [e'] at h1; cases h1
      exact ⟨d, q, h2⟩
  | t a vs =>
    obtain ⟨its, rv, p, hz⟩ := I.tuple o
    have D := Draws.tuple (prog := X.prog) (w := X.w) hh it a (fun e => ap e.symm) its.toArray
    have hn : its.toArray.size = vs.length := by rw [List.size_toArray]; exact rv.length.symm
    rw [hn] at D
    refine ⟨[a], _, _, D, fun i st => ⟨st, show s.heap.IsTuple a its.toArray from p⟩, fun i h st => st.1, fun i v e => ?_, fun b hb => show b = a from by simpa using hb⟩
    have e' : its[i]? = some v := by simpa using e
    cases q : vs[i]? with
    | none =>
      have := rv.none_of q
      rw [e'] at this; cases this
    | some d =>
      obtain ⟨u, h1, h2⟩ := rv.get q
      rw [e'] at h1; cases h1
      exact ⟨d, q, h2⟩
  | s x =>
    have D := Draws.text (prog := X.prog) (w := X.w) hh it x tk
    have hn : x.cps.size = (Src.s x).items.length := by show _ = (x.cps.toList.map _).length; rw [List.length_map, Array.length_toList]
    rw [hn] at D
    refine ⟨[], _, _, D, fun i st => st, fun i h st => st, fun i v ⟨c, u, e, ev⟩ => ?_, fun b hb => by cases hb⟩
    refine ⟨.str ⟨#[c]⟩, ?_, ⟨u, ev⟩⟩
    show (x.cps.toList.map _)[i]? = _
    rw [List.getElem?_map, Array.getElem?_toList, e]
    rfl
theorem begins {src : Src} {u : Value} (I : Inv X pins σ H s) (o : src.ok X.K H) (r : RelV src.v u) : ∃ (tk : Tok) (ob : Obj) (B : Heap → Prop), Begins u ob B ∧ B s.heap ∧ ∀ h it, h.get? it = some ob → src.It tk it 0 h := by
  cases src with
  | l a vs =>
    cases (show u = Value.ref a from r)
    obtain ⟨its, rv, p, hz⟩ := I.list o
    exact ⟨0, _, _, begins_list a its.toArray, p.isList, fun h it e => ⟨_, e, rfl, rfl⟩⟩
  | t a vs =>
    cases (show u = Value.ref a from r)
    obtain ⟨its, rv, p, hz⟩ := I.tuple o
    exact ⟨0, _, _, begins_tuple a its.toArray, show s.heap.IsTuple a its.toArray from p, fun h it e => ⟨_, e, rfl, rfl⟩⟩
  | s x =>
    obtain ⟨t, rfl⟩ := r
    exact ⟨t, _, _, begins_text x t, trivial, fun h it e => ⟨_, e, rfl, rfl⟩⟩
theorem at_lt {src : Src} {b : Addr} (I : Inv X pins σ H s) (o : src.ok X.K H) (a : src.At b) : b < s.heap.objs.size := by
  cases src with
  | l a' vs => cases (show b = a' from a); obtain ⟨its, rv, p, hz⟩ := I.list o; exact p.lt
  | t a' vs => cases (show b = a' from a); obtain ⟨its, rv, p, hz⟩ := I.tuple o; obtain ⟨o, e, _⟩ := p; exact Heap.lt_size e
  | s x => exact a.elim
theorem It.obj {src : Src} {tk : Tok} {it : Addr} {i : Nat} {h : Heap} (st : src.It tk it i h) : ∃ o, h.get? it = some o ∧ ∀ v, o.data ≠ .cell v := by
  cases src with
  | l a vs => obtain ⟨o, e, c, d⟩ := st; exact ⟨o, e, fun v z => by rw [d] at z; cases z⟩
  | t a vs => obtain ⟨o, e, c, d⟩ := st; exact ⟨o, e, fun v z => by rw [d] at z; cases z⟩
  | s x => obtain ⟨o, e, c, d⟩ := st; exact ⟨o, e, fun v z => by rw [d] at z; cases z⟩
theorem It.keep {src : Src} {tk : Tok} {it : Addr} {i : Nat} {h h' : Heap} (st : src.It tk it i h) (k : ∀ o, h.get? it = some o → h'.get? it = some o) : src.It tk it i h' := by
  cases src with
  | l a vs => obtain ⟨o, e, c⟩ := st; exact ⟨o, k o e, c⟩
  | t a vs => obtain ⟨o, e, c⟩ := st; exact ⟨o, k o e, c⟩
  | s x => obtain ⟨o, e, c⟩ := st; exact ⟨o, k o e, c⟩
end
end Src

/-- enumerate: the source's items with their numbers from k on, in new pairs -/
def ItE (K : PySem.W.Frag) (src : Src) (k : Int) : It :=
  ⟨fun i H => src.ok K H ∧ i < src.items.length, fun i H v H' => ∃ T x, v = .ref T ∧ H T = none ∧ H' = upd H T (.tup [.int (k + (i : Nat)), x]) ∧ src.items[i]? = some x, fun i H => src.ok K H ∧ i = src.items.length⟩
theorem turn_enumS {P : Program} {w : World} {K : PySem.W.Frag} {elts : List Expr} {kk : Nat} {tpos : Pos} (src : Src) (tk : Tok) (k : Int) (e it : Addr) :
    Turn P w K (.Tuple elts kk tpos) (ItE K src k) [e, it] e (fun i h => (∃ old, IsEnum h e it (k + (i : Nat)) old) ∧ src.It tk it i h ∧ e ≠ it ∧ ¬ src.At e ∧ ¬ src.At it) where
  mem := by simp
  obj := fun i h st b hb => by
    obtain ⟨⟨old, he⟩, hi, _⟩ := st
    have e' : b = e ∨ b = it := by simpa using hb
    rcases e' with z | z
    · rw [z]; exact ⟨_, he, fun v q => nomatch q⟩
    · rw [z]; exact hi.obj
  keep := fun i h h' st q => let ⟨⟨old, he⟩, hi, r⟩ := st; ⟨⟨old, q e (by simp) _ he⟩, hi.keep fun o z => q it (by simp) o z, r⟩
  item := by
    intro X hP hw hK hc i pins s σ H E I hf st hg
    subst hP hw hK
    obtain ⟨⟨old, he⟩, hit, hne, a1, a2⟩ := st
    obtain ⟨ok, hlt⟩ := hg
    obtain ⟨fpx, Pr, S, D, toS, ofS, ofP, hfp⟩ := src.draw (tk := tk) I ok a2 X.A.in1 (I.ok.hd hc)
    have W := GoesN.enumFrom (prog := X.prog) (w := X.w) (A := X.A) (elts := elts) (x1 := kk) (pos := tpos) k D e hne (fun z => by
      rcases List.mem_cons.mp z with z | z
      · exact hne z
      · exact a1 (hfp e z)) List.mem_cons_self
    refine W.goes i s (fun v s2 => ∃ x H', Inv X pins σ H' s2 ∧ RelV x v ∧ (ItE X.K src k).yld i H x H' ∧ ((∃ old, IsEnum s2.heap e it (k + ((i + 1 : Nat) : Int)) old) ∧ src.It tk it (i + 1) s2.heap ∧ e ≠ it ∧ ¬ src.At e ∧ ¬ src.At it) ∧ ∀ b ∈ [e, it], H' b = none) E hlt ⟨⟨old, he⟩, toS i hit⟩ fun v h' tk' hY hS hk _ => ?_
    obtain ⟨T, t, x, rfl, hT, hP, hTt⟩ := hY
    obtain ⟨d, hd, rd⟩ := ofP i x hP
    have new : ObjOk X.prog X.w (upd H T (.tup [.int (k + (i : Nat)), d])) h' T (.tup [.int (k + (i : Nat)), d]) :=
      ⟨by show 2 ≤ sizeLine; decide, [.int (k + (i : Nat)) t, x], .cons ⟨_, rfl⟩ (.cons rd .nil), hTt⟩
    have hlive : ∀ b ∈ [e, it], b < s.heap.objs.size := fun b hb => by
      have e' : b = e ∨ b = it := by simpa using hb
      rcases e' with z | z
      · rw [z]; exact Heap.lt_size he
      · rw [z]; obtain ⟨o, q, _⟩ := hit.obj; exact Heap.lt_size q
    refine ⟨.ref T, _, I.turnedNew (ch := [e, it]) (fun b o hb q => hk b o hb q) hf hT new, rfl, ⟨T, d, rfl, I.hok.fresh hT, rfl, hd⟩, ⟨?_, ofS _ _ hS.2, hne, a1, a2⟩, fun b hb => ?_⟩
    · exact hS.1
    · rw [upd_ne (Nat.ne_of_lt (Nat.lt_of_lt_of_le (hlive b hb) hT))]
      exact (hf b hb).1
  done := by
    intro X hP hw hK hc i pins s σ H E I hf st hg
    subst hP hw hK
    obtain ⟨⟨old, he⟩, hit, hne, a1, a2⟩ := st
    obtain ⟨ok, hlt⟩ := hg
    obtain ⟨fpx, Pr, S, D, toS, ofS, ofP, hfp⟩ := src.draw (tk := tk) I ok a2 X.A.in1 (I.ok.hd hc)
    have W := GoesN.enumFrom (prog := X.prog) (w := X.w) (A := X.A) (elts := elts) (x1 := kk) (pos := tpos) k D e hne (fun z => by
      rcases List.mem_cons.mp z with z | z
      · exact hne z
      · exact a1 (hfp e z)) List.mem_cons_self
    rw [hlt] at he hit
    exact W.stops s (fun s1 => Inv X pins σ H s1) E ⟨⟨old, he⟩, toS _ hit⟩ fun h' tk' hk _ => I.turnedL hk hf
  self := fun A i s Q E st h => let ⟨⟨_, he⟩, _⟩ := st; wpAny_pyIter_enum he h
/-- zip: the items of both in new pairs -/
def ItZ (K : PySem.W.Frag) (a b : Src) : It :=
  ⟨fun i H => a.ok K H ∧ b.ok K H ∧ i < min a.items.length b.items.length, fun i H v H' => ∃ T x y, v = .ref T ∧ H T = none ∧ H' = upd H T (.tup [x, y]) ∧ a.items[i]? = some x ∧ b.items[i]? = some y,
    fun i H => a.ok K H ∧ b.ok K H ∧ i = min a.items.length b.items.length⟩
theorem turn_zipS {P : Program} {w : World} {K : PySem.W.Frag} {elts : List Expr} {kk : Nat} {tpos : Pos} (a b : Src) (ta tb : Tok) (z TI TO i1 i2 : Addr) :
    Turn P w K (.Tuple elts kk tpos) (ItZ K a b) [z, TI, TO, i1, i2] z (fun i h => IsZip h z TI TO .none ∧ IsTupOf2 h TI (.ref i1) (.ref i2) ∧ (∃ a1 a2, IsTupOf2 h TO a1 a2) ∧ a.It ta i1 i h ∧ b.It tb i2 i h ∧
      (∀ f1 f2 : List Addr, (∀ c ∈ f1, a.At c) → (∀ c ∈ f2, b.At c) → ZipSep2 z TI TO i1 i2 (i1 :: f1) (i2 :: f2)) ∧ ¬ a.At i1 ∧ ¬ b.At i2) where
  mem := by simp
  obj := fun i h st c hc => by
    obtain ⟨hz, hTI, ⟨a1, a2, hTO⟩, h1, h2, _⟩ := st
    have e' : c = z ∨ c = TI ∨ c = TO ∨ c = i1 ∨ c = i2 := by simpa using hc
    rcases e' with q | q | q | q | q
    · rw [q]; exact ⟨_, hz, fun v r => nomatch r⟩
    · rw [q]; exact ⟨_, hTI, fun v r => nomatch r⟩
    · rw [q]; exact ⟨_, hTO, fun v r => nomatch r⟩
    · rw [q]; exact h1.obj
    · rw [q]; exact h2.obj
  keep := fun i h h' st q => let ⟨hz, hTI, ⟨a1, a2, hTO⟩, h1, h2, r⟩ := st
    ⟨q z (by simp) _ hz, q TI (by simp) _ hTI, ⟨a1, a2, q TO (by simp) _ hTO⟩, h1.keep fun o e => q i1 (by simp) o e, h2.keep fun o e => q i2 (by simp) o e, r⟩
  item := by
    intro X hP hw hK hc i pins s σ H E I hf st hg
    subst hP hw hK
    obtain ⟨hz, hTI, hTO, h1, h2, sep, n1, n2⟩ := st
    obtain ⟨ok1, ok2, hlt⟩ := hg
    obtain ⟨f1, P1, S1, D1, toS1, ofS1, ofP1, hf1⟩ := a.draw (tk := ta) I ok1 n1 X.A.in1 (I.ok.hd hc)
    obtain ⟨f2, P2, S2, D2, toS2, ofS2, ofP2, hf2⟩ := b.draw (tk := tb) I ok2 n2 X.A.in1 (I.ok.hd hc)
    have W := GoesN.zip2 (prog := X.prog) (w := X.w) (A := X.A) (elts := elts) (x1 := kk) (pos := tpos) (sep f1 f2 hf1 hf2) D1 D2
    refine W.goes i s (fun v s2 => ∃ x H', Inv X pins σ H' s2 ∧ RelV x v ∧ (ItZ X.K a b).yld i H x H' ∧ (IsZip s2.heap z TI TO .none ∧ IsTupOf2 s2.heap TI (.ref i1) (.ref i2) ∧ (∃ a1 a2, IsTupOf2 s2.heap TO a1 a2) ∧ a.It ta i1 (i + 1) s2.heap ∧ b.It tb i2 (i + 1) s2.heap ∧
      (∀ f1 f2 : List Addr, (∀ c ∈ f1, a.At c) → (∀ c ∈ f2, b.At c) → ZipSep2 z TI TO i1 i2 (i1 :: f1) (i2 :: f2)) ∧ ¬ a.At i1 ∧ ¬ b.At i2) ∧ ∀ c ∈ [z, TI, TO, i1, i2], H' c = none) E hlt ⟨hz, hTI, hTO, toS1 i h1, toS2 i h2⟩ fun v h' tk' hY hS hk _ => ?_
    obtain ⟨T, x, y, rfl, hT, hP1, hP2, hTt⟩ := hY
    obtain ⟨d1, hd1, rd1⟩ := ofP1 i x hP1
    obtain ⟨d2, hd2, rd2⟩ := ofP2 i y hP2
    have new : ObjOk X.prog X.w (upd H T (.tup [d1, d2])) h' T (.tup [d1, d2]) :=
      ⟨by show 2 ≤ sizeLine; decide, [x, y], .cons rd1 (.cons rd2 .nil), hTt⟩
    have hlive : ∀ c ∈ [z, TI, TO, i1, i2], c < s.heap.objs.size := fun c hc => by
      obtain ⟨a1, a2, hTO⟩ := hTO
      have e' : c = z ∨ c = TI ∨ c = TO ∨ c = i1 ∨ c = i2 := by simpa using hc
      rcases e' with q | q | q | q | q
      · rw [q]; exact Heap.lt_size hz
      · rw [q]; exact Heap.lt_size hTI
      · rw [q]; exact Heap.lt_size hTO
      · rw [q]; obtain ⟨o, q, _⟩ := h1.obj; exact Heap.lt_size q
      · rw [q]; obtain ⟨o, q, _⟩ := h2.obj; exact Heap.lt_size q
    refine ⟨.ref T, _, I.turnedNew (ch := [z, TI, TO, i1, i2]) (fun c o hb q => hk c o (fun m => hb (by
      have e' : c = z ∨ c = TO ∨ c = i1 ∨ c = i2 := by simpa using m
      rcases e' with q | q | q | q <;> simp [q])) q) hf hT new, rfl, ⟨T, d1, d2, rfl, I.hok.fresh hT, rfl, hd1, hd2⟩, ⟨hS.1, hS.2.1, hS.2.2.1, ofS1 _ _ hS.2.2.2.1, ofS2 _ _ hS.2.2.2.2, sep, n1, n2⟩, fun c hc => ?_⟩
    rw [upd_ne (Nat.ne_of_lt (Nat.lt_of_lt_of_le (hlive c hc) hT))]
    exact (hf c hc).1
  done := by
    intro X hP hw hK hc i pins s σ H E I hf st hg
    subst hP hw hK
    obtain ⟨hz, hTI, hTO, h1, h2, sep, n1, n2⟩ := st
    obtain ⟨ok1, ok2, hlt⟩ := hg
    obtain ⟨f1, P1, S1, D1, toS1, ofS1, ofP1, hf1⟩ := a.draw (tk := ta) I ok1 n1 X.A.in1 (I.ok.hd hc)
    obtain ⟨f2, P2, S2, D2, toS2, ofS2, ofP2, hf2⟩ := b.draw (tk := tb) I ok2 n2 X.A.in1 (I.ok.hd hc)
    have W := GoesN.zip2 (prog := X.prog) (w := X.w) (A := X.A) (elts := elts) (x1 := kk) (pos := tpos) (sep f1 f2 hf1 hf2) D1 D2
    rw [hlt] at h1 h2
    exact W.stops s (fun s1 => Inv X pins σ H s1) E ⟨hz, hTI, hTO, toS1 _ h1, toS2 _ h2⟩ fun h' tk' hk _ => I.turnedL (fun c o hb q => hk c o (fun m => hb (by
      have e' : c = z ∨ c = TO ∨ c = i1 ∨ c = i2 := by simpa using m
      rcases e' with q | q | q | q <;> simp [q])) q) hf
  self := fun A i s Q E st h => wpAny_pyIter_zip st.1 h

/-! ### readings of what is walked -/
/-- the source of a value's items -/
def SrcR (M : Md) (F : Fz) (H : Hp) (ds : List D) (src : Src) : Prop := ∀ F2 H2, (∀ a, F a → F2 a) → Mono F H H2 → src.ok M.K H2 ∧ Rs M F2 H2 ds src.items
def walkD : D → Option (List D)
  | .tup xs => some xs
  | .lst xs => some xs
  | .fl xs => some xs
  | .str x => some (x.cps.toList.map fun c => .str ⟨#[c]⟩)
  | _ => none
theorem src_of {M : Md} {F : Fz} {H : Hp} : ∀ {d : D} {v : V} {ds : List D}, R M F H d v → walkD d = some ds → ∃ src : Src, v = src.v ∧ SrcR M F H ds src
  | .tup xs, v, ds, r, e => by obtain ⟨a, us, rfl, t, rs⟩ := r; cases e; exact ⟨.t a us, rfl, fun F2 H2 le m => ⟨SqT.mono m t, rs.mono m le⟩⟩
  | .lst xs, v, ds, r, e => by obtain ⟨a, us, rfl, f, t, rs⟩ := r; cases e; exact ⟨.l a us, rfl, fun F2 H2 le m => ⟨.inl (.inl (m _ _ t (.inl f))), rs.mono m le⟩⟩
  | .fl xs, v, ds, r, e => by obtain ⟨a, us, rfl, t, rs⟩ := r; cases e; exact ⟨.l a us, rfl, fun F2 H2 le m => ⟨FrL.sq (t.imp (fun ⟨o, t⟩ => ⟨o, m _ _ t (.inr fun z => z)⟩) id), rs.mono m le⟩⟩
  | .str x, v, ds, r, e => by
    cases e
    refine ⟨.s x, r, fun F2 H2 le m => ⟨trivial, ?_⟩⟩
    show Rs M F2 H2 (x.cps.toList.map _) (x.cps.toList.map _)
    generalize x.cps.toList = l
    induction l with
    | nil => rfl
    | cons c l ih => exact ⟨_, _, rfl, rfl, ih⟩
  | .non, _, _, _, e => by cases e
  | .bl _, _, _, _, e => by cases e
  | .int _, _, _, _, e => by cases e
  | .ty _, _, _, _, e => by cases e
  | .fn _, _, _, _, e => by cases e
  | .dct _ _ _, _, _, _, e => by cases e
/-- J walks the items ds, at whatever heaps come behind H -/
def Iter (M : Md) (F : Fz) (H : Hp) (J : It) (ds : List D) : Prop := ∀ F2 H2, (∀ a, F a → F2 a) → Mono F H H2 →
  (∀ (i : Nat) (d : D), ds[i]? = some d → J.go i H2 ∧ ∀ x H3, J.yld i H2 x H3 → Fresh F2 H2 F2 H3 ∧ R M F2 H3 d x) ∧ J.stop ds.length H2
def PostI (M : Md) (W : WX) (F : Fz) (H : Hp) (σ : L2.St) (Q : It → Hp → Prop) : Res (List D) → Prop
  | .ok ds => ∀ J H' F', Fresh F H F' H' → Iter M F' H' J ds → Q J H'
  | .ex c fs => PostX M W F H σ c fs
  | .bad => False
def tPI (M : Md) (W : WX) (f : DS → Res (List D)) : TI := fun σ H Q => ∃ F δ, PR M F H σ δ ∧ PostI M W F H σ Q (f δ)
def DI (X : Cx) (W : WX) (tg iter : Expr) (f : DS → Res (List D)) : Prop := PI X tg iter (tPI (mdOf X) W f)
theorem PI_imp {X : Cx} {tg e : Expr} {t t' : TI} (h : PI X tg e t) (i : ∀ σ H Q, t' σ H Q → t σ H Q) : PI X tg e t' := ⟨fun pins s σ H Q I q => h.run pins s σ H Q I (i σ H Q q)⟩
theorem PostI.step {M : Md} {W : WX} {F F1 : Fz} {H H1 : Hp} {σ : L2.St} {Q : It → Hp → Prop} (a : Fresh F H F1 H1) : ∀ {r : Res (List D)}, PostI M W F H σ Q r → PostI M W F1 H1 σ Q r
  | .ok d, p => fun J H' F' f g => p J H' F' (a.trans f) g
  | .ex c fs, p => PostX.step a p
  | .bad, p => p.elim
section
variable {M : Md} {W : WX} {F F1 : Fz} {H H1 : Hp} {σ : L2.St} {δ : DS}
theorem seqPI {fa : DS → Res D} {k : D → Res (List D)} {Q : It → Hp → Prop} (pr : PR M F H σ δ) (post : PostI M W F H σ Q ((fa δ).bind k)) {Q1 : VK}
    (hk : ∀ d v H1 F1, fa δ = .ok d → Fresh F H F1 H1 → R M F1 H1 d v → PostI M W F1 H1 σ Q (k d) → Q1 v H1) : tP M W false fa σ H Q1 := by
  refine ⟨F, δ, pr, ?_⟩
  cases e : fa δ with
  | ok d => rw [e] at post; exact fun v H1 F1 f g => hk d v H1 F1 e f g (PostI.step f post)
  | ex c fs => rw [e] at post; exact post
  | bad => rw [e] at post; exact post
theorem seqAI {fa : DS → Res (List D)} {k : List D → Res (List D)} {Q : It → Hp → Prop} (pr : PR M F H σ δ) (post : PostI M W F H σ Q ((fa δ).bind k)) {Q1 : List V → Hp → Prop}
    (hk : ∀ ds vs H1 F1, fa δ = .ok ds → Fresh F H F1 H1 → Rs M F1 H1 ds vs → PostI M W F1 H1 σ Q (k ds) → Q1 vs H1) : tPA M W fa σ H Q1 := by
  refine ⟨F, δ, pr, ?_⟩
  cases e : fa δ with
  | ok d => rw [e] at post; exact fun v H1 F1 f g => hk d v H1 F1 e f g (PostI.step f post)
  | ex c fs => rw [e] at post; exact post
  | bad => rw [e] at post; exact post
end
end Dn

set_option Elab.async false
set_option linter.all false
set_option maxRecDepth 100000
set_option autoImplicit false
set_option maxHeartbeats 4000000
namespace Dn
open PySem PySem.Spec L2
open PyProof.Rows hiding St

theorem new_enum1 {v : Value} {o : Obj} {H : Heap → Prop} (B : Begins v o H) :
    Meets (Builtin.«enumerate.__new__» ⟨[.type "enumerate", v], []⟩) (fun _ R s => H s.heap ∧
      R (.ok (.ret (.ref (s.heap.push o).objs.size))) { s with heap := (s.heap.push o).push { cls := .type "enumerate", data := .fields #[.none, .bool false, .ref s.heap.objs.size, rawInt 0, .none, .none] } }) :=
  .of_wp fun prog w A R s h => by
    obtain ⟨hp, g, d, tk, os⟩ := s; obtain ⟨h1, h⟩ := h
    have hsub := sub_enumerate
    have q1 : ∀ {A' : Around} {E : Value → Shared → Prop} {Q : Value → Shared → Prop}, Q (.ref hp.objs.size) ⟨hp.push o, g, d, tk, os⟩ → wpAny (model prog w) A' (pyIter v) Q E ⟨hp, g, d, tk, os⟩ :=
      fun q => B.iter prog w _ _ ⟨hp, g, d, tk, os⟩ _ h1 q
    wp_walk using q1
    refine wpAny_stack_any fun st => wpAny_pure ?_
    split
    · rename_i c _ _ _ _ _
      cases (c == Value.type "enumerate")
      · wp_walk using q1
        exact ⟨_, rfl, h⟩
      · wp_walk using q1
        exact ⟨_, rfl, h⟩
    · wp_walk using q1
      exact ⟨_, rfl, h⟩
theorem enum_begins1 {prog : Program} {w : World} {A : Around} {E : Value → Shared → Prop} {s : Shared} {v : Value} {o : Obj} {H : Heap → Prop} {Q : Value → Shared → Prop} (B : Begins v o H) (h1 : H s.heap)
    (h : ∀ h', IsEnum h' (s.heap.objs.size + 1) s.heap.objs.size 0 .none → h'.get? s.heap.objs.size = some o → h'.objs.size = s.heap.objs.size + 2 →
      (∀ b o, s.heap.get? b = some o → h'.get? b = some o) → Q (.ref (s.heap.objs.size + 1)) { s with heap := h' }) :
    wpAny (model prog w) A (call (.type "enumerate") [v]) Q E s := by
  refine callType_new F.called_enumerate (by decide) (F.typeCall_enumerate_1 _) (F.newCall_enumerate_1 _) (fun obj => F.args_object_init_2 obj _) F.entry_enumerate_new
    (new_enum1 B) ⟨h1, ?_⟩
  have hz : (s.heap.push o).objs.size = s.heap.objs.size + 1 := Heap.size_push ..
  show _ ∧ _
  rw [hz]
  have he : IsEnum ((s.heap.push o).push { cls := .type "enumerate", data := .fields #[.none, .bool false, .ref s.heap.objs.size, rawInt 0, .none, .none] }) (s.heap.objs.size + 1) s.heap.objs.size 0 .none := by
    have := Heap.get?_push_size (s.heap.push o) (o := { cls := .type "enumerate", data := .fields #[.none, .bool false, .ref s.heap.objs.size, rawInt 0, .none, .none] }) rfl
    rw [hz] at this; exact this
  refine ⟨⟨_, he, rfl⟩, h _ he (Heap.get?_push_of_some _ (Heap.get?_push_size _ B.free)) (by rw [Heap.size_push, hz]) fun b o x => Heap.get?_push_of_some _ (Heap.get?_push_of_some _ x)⟩

section
variable {X : Cx} {W : WX} {e a b c : Expr} {es : List Expr} {fa : DS → Res D} {fs : DS → Res (List D)} {tg : Expr} {pos p tpos : Pos} {elts : List Expr} {kk : Nat}
/-! ### a value's items -/
def ItS (K : PySem.W.Frag) : Src → It
  | .l a _ => Itl K a
  | .t a _ => Itt K a
  | .s x => Its x
def iVal (K : PySem.W.Frag) (te : TE) : TI := fun σ H R => te σ H fun x H1 => ∃ src : Src, x = src.v ∧ src.ok K H1 ∧ R (ItS K src) H1
theorem pi_val {te : TE} (he : PE X e te) : PI X tg e (iVal X.K te) := by
  refine ⟨fun pins s σ H R I h => ?_⟩
  refine thn (he.run pins s σ H _ I h) fun v s1 ⟨x, H1, I1, r1, src, ex, ok, q⟩ => ?_
  subst ex
  cases src with
  | l a vs =>
    cases (show v = Value.ref a from r1)
    obtain ⟨its, rv, p, hz⟩ := I1.list ok
    refine wpAny_pyIter_list p.isList ?_
    exact pi_one (tk := s1.toks) I1 _ (turn_list a _) ⟨_, Heap.get?_push_size _ rfl, rfl, rfl⟩ q
  | t a vs =>
    cases (show v = Value.ref a from r1)
    obtain ⟨its, rv, p, hz⟩ := I1.tuple ok
    refine wpAny_pyIter_tuple (show s1.heap.IsTuple a its.toArray from p) ?_
    exact pi_one (tk := s1.toks) I1 _ (turn_tuple a _) ⟨_, Heap.get?_push_size _ rfl, rfl, rfl⟩ q
  | s x =>
    obtain ⟨t, rfl⟩ := r1
    cases ha : x.cps.all (· < 128)
    · exact wpAny_pyIter_wide ha (pi_one (tk := s1.toks) I1 _ (turn_str _ x t "str_iterator" (.inr rfl)) ⟨_, Heap.get?_push_size _ rfl, rfl, rfl⟩ q)
    · exact wpAny_pyIter_ascii ha (pi_one (tk := s1.toks) I1 _ (turn_str _ x t "str_ascii_iterator" (.inl rfl)) ⟨_, Heap.get?_push_size _ rfl, rfl, rfl⟩ q)
def iW (f : DS → Res D) : DS → Res (List D) := fun δ => (f δ).bind fun x => resO (walkD x)
theorem Mono.tr {F F1 F2 : Fz} {H H1 H2 : Hp} (a : Mono F H H1) (le : ∀ x, F x → F1 x) (b : Mono F1 H1 H2) : Mono F H H2 := a.trans le b
theorem iter_val {M : Md} {F : Fz} {H : Hp} {ds : List D} {src : Src} (r : SrcR M F H ds src) : Iter M F H (ItS M.K src) ds := fun F2 H2 le m => by
  obtain ⟨ok, rs⟩ := r F2 H2 le m
  cases src with
  | l a vs =>
    refine ⟨fun i d e => ?_, ⟨vs, ok, by rw [rs.length]; exact Nat.le_refl _⟩⟩
    obtain ⟨v, e1, r1⟩ := rs.get e
    refine ⟨⟨vs, v, ok, e1⟩, fun x H3 y => ?_⟩
    obtain ⟨e3, y⟩ := y
    subst e3
    have := y vs ok
    rw [show vs[i]? = some v from e1] at this
    cases this
    exact ⟨.refl F2 H3, r1⟩
  | t a vs =>
    refine ⟨fun i d e => ?_, ⟨vs, ok, by rw [rs.length]; exact Nat.le_refl _⟩⟩
    obtain ⟨v, e1, r1⟩ := rs.get e
    refine ⟨⟨vs, v, ok, e1⟩, fun x H3 y => ?_⟩
    obtain ⟨e3, y⟩ := y
    subst e3
    have := y vs ok
    rw [show vs[i]? = some v from e1] at this
    cases this
    exact ⟨.refl F2 H3, r1⟩
  | s x =>
    have hl : ds.length = x.cps.size := by rw [rs.length]; show (x.cps.toList.map _).length = _; rw [List.length_map, Array.length_toList]
    refine ⟨fun i d e => ?_, by show x.cps.size ≤ _; rw [hl]; exact Nat.le_refl _⟩
    obtain ⟨v, e1, r1⟩ := rs.get e
    have hi : i < x.cps.size := by
      have := (List.getElem?_eq_some_iff.mp e).1
      rw [hl] at this; exact this
    refine ⟨hi, fun y H3 q => ?_⟩
    obtain ⟨e3, c, ec, ey⟩ := q
    subst e3 ey
    have e1 : (x.cps.toList.map fun c => V.str ⟨#[c]⟩)[i]? = some v := e1
    rw [List.getElem?_map, Array.getElem?_toList, ec] at e1
    cases e1
    exact ⟨.refl F2 H3, r1⟩
theorem di_val (he : DP X W e false fa) : DI X W tg e (iW fa) := by
  refine PI_imp (pi_val he) fun σ H Q h => ?_
  obtain ⟨F, δ, pr, post⟩ := h
  refine seqPI (k := fun x => resO (walkD x)) pr post fun d v H1 F1 _ f1 r1 post1 => ?_
  cases q : walkD d with
  | none => rw [q] at post1; exact post1.elim
  | some ds =>
    rw [q] at post1
    obtain ⟨src, ev, sr⟩ := src_of r1 q
    exact ⟨src, ev, (sr F1 H1 (fun _ z => z) (.refl F1 H1)).1, post1 _ H1 F1 (.refl F1 H1) (iter_val sr)⟩

/-! ### range -/
def rngD (lo : Int) (n : Nat) : List D := (List.range n).map fun i => .int (lo + (i : Nat))
theorem rngD_get {lo : Int} {n i : Nat} {d : D} (h : (rngD lo n)[i]? = some d) : i < n ∧ d = .int (lo + (i : Nat)) := by
  unfold rngD at h
  rw [List.getElem?_map] at h
  by_cases hi : i < n
  · rw [List.getElem?_range hi] at h; cases h; exact ⟨hi, rfl⟩
  · rw [List.getElem?_eq_none (by rw [List.length_range]; omega)] at h; cases h
theorem iter_rng {M : Md} {F : Fz} {H : Hp} (lo : Int) (n : Nat) : Iter M F H (Itr lo n) (rngD lo n) := fun F2 H2 le m => by
  refine ⟨fun i d e => ?_, by show n ≤ _; unfold rngD; rw [List.length_map, List.length_range]; exact Nat.le_refl _⟩
  obtain ⟨hi, rfl⟩ := rngD_get e
  refine ⟨hi, fun x H3 y => ?_⟩
  obtain ⟨e3, y⟩ := y
  subst e3 y
  exact ⟨.refl F2 H3, rfl⟩
def smI (i : Int) : Bool := decide (-(2 ^ 62) ≤ i ∧ i < 2 ^ 62)
def range1D : List D → Option (List D)
  | [.int j] => if smI j = true then some (rngD 0 j.toNat) else none
  | _ => none
def range2D : List D → Option (List D)
  | [.int i, .int j] => if smI i = true ∧ smI j = true then some (rngD i (j - i).toNat) else none
  | _ => none
def iR (g : List D → Option (List D)) (fs : DS → Res (List D)) : DS → Res (List D) := fun δ => (fs δ).bind fun xs => resO (g xs)
theorem di_range1 (hg : Gl X "range") (hm : X.mg "range" = none) (ha : DA X W [a] fs) (hs : starEach [a] X.env = [(false, eval a X.env)] := by rfl) : DI X W tg (.Call (.Name "range" p) [a] [] pos) (iR range1D fs) := by
  refine PI_imp (pi_range1 hg hm ha hs) fun σ H Q h => ?_
  obtain ⟨F, δ, pr, post⟩ := h
  refine seqAI (k := fun xs => resO (range1D xs)) pr post fun ds vs H1 F1 hds f1 r1 post1 => ?_
  clear hds
  cases q : range1D ds with
  | none => rw [q] at post1; exact post1.elim
  | some es =>
    rw [q] at post1
    unfold range1D at q
    split at q
    · rename_i j
      split at q
      · rename_i hj
        cases q
        obtain ⟨v, rfl, r⟩ := r1.one
        cases (show v = V.int j from r)
        have hj := of_decide_eq_true hj
        exact ⟨j, rfl, hj.1, hj.2, post1 _ H1 F1 (.refl F1 H1) (iter_rng 0 _)⟩
      · cases q
    · cases q
theorem di_range2 (hg : Gl X "range") (hm : X.mg "range" = none) (ha : DA X W [a, b] fs) (hs : starEach [a, b] X.env = [(false, eval a X.env), (false, eval b X.env)] := by rfl) (hs2 : starEach [b] X.env = [(false, eval b X.env)] := by rfl) :
    DI X W tg (.Call (.Name "range" p) [a, b] [] pos) (iR range2D fs) := by
  refine PI_imp (pi_range2 hg hm ha hs hs2) fun σ H Q h => ?_
  obtain ⟨F, δ, pr, post⟩ := h
  refine seqAI (k := fun xs => resO (range2D xs)) pr post fun ds vs H1 F1 hds f1 r1 post1 => ?_
  clear hds
  cases q : range2D ds with
  | none => rw [q] at post1; exact post1.elim
  | some es =>
    rw [q] at post1
    unfold range2D at q
    split at q
    · rename_i i j
      split at q
      · rename_i hj
        cases q
        obtain ⟨v, u, rfl, r, r'⟩ := r1.two
        cases (show v = V.int i from r)
        cases (show u = V.int j from r')
        have h1 := of_decide_eq_true hj.1
        have h2 := of_decide_eq_true hj.2
        exact ⟨i, j, rfl, ⟨h1.1, h1.2, h2.1, h2.2⟩, post1 _ H1 F1 (.refl F1 H1) (iter_rng i _)⟩
      · cases q
    · cases q

/-! ### enumerate, zip -/
def iEnumS (K : PySem.W.Frag) (k : Int) (ta : TA) : TI := fun σ H R => ta σ H fun vs H1 => ∃ src : Src, vs = [src.v] ∧ src.ok K H1 ∧ R (ItE K src k) H1
theorem pi_enumS {ta : TA} (hg : Gl X "enumerate") (hm : X.mg "enumerate" = none) (ha : PA X [e] ta) (hs : starEach [e] X.env = [(false, eval e X.env)] := by rfl) :
    PI X (.Tuple elts kk tpos) (.Call (.Name "enumerate" p) [e] [] pos) (iEnumS X.K 0 ta) := by
  refine ⟨fun pins s σ H R I h => ?_⟩
  refine Call_ (ld_blt I hg hm boot_enumerate (PyProof.Rows.callWith_type1 (thn (ha.run pos pins s σ H _ I h) fun us s1 ⟨vs, H1, I1, r1, src, ex, ok, q⟩ => ?_) hs rfl))
  subst ex
  cases r1 with
  | cons r rr =>
    cases rr
    obtain ⟨tk, ob, B, bg, hB, hIt⟩ := src.begins I1 ok r
    refine enum_begins1 bg hB fun h' he hit hsz hk => wpAny_pyIter_enum he ?_
    have I2 : Inv X pins σ H1 { s1 with heap := h' } := I1.kept (t' := s1.toks) hk
    have nat : ∀ b, s1.heap.objs.size ≤ b → ¬ src.At b := fun b hb z => absurd (Nat.lt_of_lt_of_le (Src.at_lt I1 ok z) hb) (Nat.lt_irrefl _)
    refine ⟨s1.heap.objs.size + 1, [s1.heap.objs.size + 1, s1.heap.objs.size], _, _, H1, rfl, I2, turn_enumS src tk 0 (s1.heap.objs.size + 1) s1.heap.objs.size, ⟨⟨.none, he⟩, hIt _ _ hit, Nat.succ_ne_self _, nat _ (Nat.le_succ _), nat _ (Nat.le_refl _)⟩, fun b hb => ?_, q⟩
    have e' : b = s1.heap.objs.size + 1 ∨ b = s1.heap.objs.size := by simpa using hb
    have hle : s1.heap.objs.size ≤ b := by
      rcases e' with z | z
      · rw [z]; exact Nat.le_add_right _ _
      · rw [z]; exact Nat.le_refl _
    exact I1.fpOk hle (I1.hok.fresh hle)
def iEnumK (K : PySem.W.Frag) (ta : TA) : TI := fun σ H R => ta σ H fun vs H1 => ∃ (src : Src) (k : Int), vs = [src.v, .int k] ∧ src.ok K H1 ∧ (-(2 ^ 62) ≤ k ∧ k < 2 ^ 62) ∧ R (ItE K src k) H1
theorem pi_enumK {ta : TA} (hg : Gl X "enumerate") (hm : X.mg "enumerate" = none) (ha : PA X [e, a] ta) (hs : starEach [e, a] X.env = (false, eval e X.env) :: starEach [a] X.env := by rfl) (hpl : (backTo pos (starEach [a] X.env)).any (·.1) = false := by rfl) :
    PI X (.Tuple elts kk tpos) (.Call (.Name "enumerate" p) [e, a] [] pos) (iEnumK X.K ta) := by
  refine ⟨fun pins s σ H R I h => ?_⟩
  refine Call_ (ld_blt I hg hm boot_enumerate (PyProof.Rows.callWith_type1 (thn (ha.run pos pins s σ H _ I h) fun us s1 ⟨vs, H1, I1, r1, src, k, ex, ok, hk, q⟩ => ?_) hs hpl))
  subst ex
  cases r1 with
  | cons r rr =>
    cases rr with
    | cons r' rr =>
    cases rr
    obtain ⟨t, rfl⟩ := r'
    obtain ⟨tk, ob, B, bg, hB, hIt⟩ := src.begins I1 ok r
    refine enum_begins bg hB (by omega) (by omega) fun h' he hit hsz hk => wpAny_pyIter_enum he ?_
    have I2 : Inv X pins σ H1 { s1 with heap := h' } := I1.kept (t' := s1.toks) hk
    have nat : ∀ b, s1.heap.objs.size ≤ b → ¬ src.At b := fun b hb z => absurd (Nat.lt_of_lt_of_le (Src.at_lt I1 ok z) hb) (Nat.lt_irrefl _)
    refine ⟨s1.heap.objs.size + 1, [s1.heap.objs.size + 1, s1.heap.objs.size], _, _, H1, rfl, I2, turn_enumS src tk k (s1.heap.objs.size + 1) s1.heap.objs.size, ⟨⟨.none, ?_⟩, hIt _ _ hit, Nat.succ_ne_self _, nat _ (Nat.le_succ _), nat _ (Nat.le_refl _)⟩, fun b hb => ?_, q⟩
    · have e1 : k + ((0 : Nat) : Int) = k := by omega
      rw [e1]; exact he
    have e' : b = s1.heap.objs.size + 1 ∨ b = s1.heap.objs.size := by simpa using hb
    have hle : s1.heap.objs.size ≤ b := by
      rcases e' with z | z
      · rw [z]; exact Nat.le_add_right _ _
      · rw [z]; exact Nat.le_refl _
    exact I1.fpOk hle (I1.hok.fresh hle)
def iZipS (K : PySem.W.Frag) (ta : TA) : TI := fun σ H R => ta σ H fun vs H1 => ∃ x y : Src, vs = [x.v, y.v] ∧ x.ok K H1 ∧ y.ok K H1 ∧ R (ItZ K x y) H1
theorem pi_zipS {ta : TA} (hg : Gl X "zip") (hm : X.mg "zip" = none) (ha : PA X [a, b] ta)
    (hs : starEach [a, b] X.env = (false, eval a X.env) :: starEach [b] X.env := by rfl) (hpl : (backTo pos (starEach [b] X.env)).any (·.1) = false := by rfl) :
    PI X (.Tuple elts kk tpos) (.Call (.Name "zip" p) [a, b] [] pos) (iZipS X.K ta) := by
  refine ⟨fun pins s σ H R I h => ?_⟩
  refine Call_ (ld_blt I hg hm PyProof.Rows.boot_zip (PyProof.Rows.callWith_type1 (thn (ha.run pos pins s σ H _ I h) fun us s1 ⟨vs, H1, I1, r1, x, y, ex, ok1, ok2, q⟩ => ?_) hs hpl))
  subst ex
  cases r1 with
  | cons r rr =>
    cases rr with
    | cons r' rr =>
      cases rr
      obtain ⟨tk1, ob1, B1, bg1, hB1, hIt1⟩ := x.begins I1 ok1 r
      obtain ⟨tk2, ob2, B2, bg2, hB2, hIt2⟩ := y.begins I1 ok2 r'
      refine zip_begins2 bg1 bg2 hB1 hB2 fun h' hz hTI hTO h1 h2 hsz hk => wpAny_pyIter_zip hz ?_
      have I2 : Inv X pins σ H1 { s1 with heap := h' } := I1.kept (t' := s1.toks) hk
      have nat1 : ∀ c, s1.heap.objs.size ≤ c → ¬ x.At c := fun c hc z => absurd (Nat.lt_of_lt_of_le (Src.at_lt I1 ok1 z) hc) (Nat.lt_irrefl _)
      have nat2 : ∀ c, s1.heap.objs.size ≤ c → ¬ y.At c := fun c hc z => absurd (Nat.lt_of_lt_of_le (Src.at_lt I1 ok2 z) hc) (Nat.lt_irrefl _)
      refine ⟨s1.heap.objs.size + 4, [s1.heap.objs.size + 4, s1.heap.objs.size + 2, s1.heap.objs.size + 3, s1.heap.objs.size, s1.heap.objs.size + 1], _, _, H1, rfl, I2, turn_zipS x y tk1 tk2 (s1.heap.objs.size + 4) (s1.heap.objs.size + 2) (s1.heap.objs.size + 3) s1.heap.objs.size (s1.heap.objs.size + 1),
        ⟨hz, hTI, ⟨_, _, hTO⟩, hIt1 _ _ h1, hIt2 _ _ h2, fun f1 f2 hf1 hf2 => zip_sep2 (fun b hb => Src.at_lt I1 ok1 (hf1 b hb)) (fun b hb => Src.at_lt I1 ok2 (hf2 b hb)), nat1 _ (Nat.le_refl _), nat2 _ (Nat.le_succ _)⟩, fun c hcm => ?_, q⟩
      have e' : c = s1.heap.objs.size + 4 ∨ c = s1.heap.objs.size + 2 ∨ c = s1.heap.objs.size + 3 ∨ c = s1.heap.objs.size ∨ c = s1.heap.objs.size + 1 := by simpa using hcm
      have hle : s1.heap.objs.size ≤ c := by
        rcases e' with z | z | z | z | z
        · rw [z]; exact Nat.le_add_right _ _
        · rw [z]; exact Nat.le_add_right _ _
        · rw [z]; exact Nat.le_add_right _ _
        · rw [z]; exact Nat.le_refl _
        · rw [z]; exact Nat.le_add_right _ _
      exact I1.fpOk hle (I1.hok.fresh hle)
/-- the items with their numbers -/
def enumL (k : Int) (ds : List D) : List D := ds.mapIdx fun i d => .tup [.int (k + (i : Nat)), d]
def enum1D : List D → Option (List D)
  | [d] => (walkD d).map (enumL 0)
  | _ => none
def enum2D : List D → Option (List D)
  | [d, .int k] => if smI k = true then (walkD d).map (enumL k) else none
  | _ => none
def zipL (xs ys : List D) : List D := List.zipWith (fun x y => .tup [x, y]) xs ys
def zipD : List D → Option (List D)
  | [d, e] => (walkD d).bind fun xs => (walkD e).map fun ys => zipL xs ys
  | _ => none
theorem iter_enum {M : Md} {F : Fz} {H : Hp} {ds : List D} {src : Src} (k : Int) (r : SrcR M F H ds src) : Iter M F H (ItE M.K src k) (enumL k ds) := fun F2 H2 le m => by
  obtain ⟨ok, rs⟩ := r F2 H2 le m
  refine ⟨fun i d e => ?_, ok, by unfold enumL; rw [List.length_mapIdx, rs.length]⟩
  unfold enumL at e
  rw [List.getElem?_mapIdx] at e
  cases q : ds[i]? with
  | none => rw [q] at e; cases e
  | some d' =>
    rw [q] at e; cases e
    obtain ⟨v, e1, r1⟩ := rs.get q
    refine ⟨⟨ok, (List.getElem?_eq_some_iff.mp e1).1⟩, fun x H3 y => ?_⟩
    obtain ⟨T, z, rfl, nT, rfl, ez⟩ := y
    rw [e1] at ez; cases ez
    exact ⟨.upd nT, R.new_tup ⟨_, _, rfl, rfl, _, _, rfl, r1, rfl⟩ nT⟩
theorem iter_zip {M : Md} {F : Fz} {H : Hp} {ds es : List D} {x y : Src} (r : SrcR M F H ds x) (r' : SrcR M F H es y) : Iter M F H (ItZ M.K x y) (zipL ds es) := fun F2 H2 le m => by
  obtain ⟨ok, rs⟩ := r F2 H2 le m
  obtain ⟨ok', rs'⟩ := r' F2 H2 le m
  refine ⟨fun i d e => ?_, ok, ok', by unfold zipL; rw [List.length_zipWith, rs.length, rs'.length]⟩
  unfold zipL at e
  rw [List.getElem?_zipWith] at e
  cases q : ds[i]? with
  | none => rw [q] at e; cases e
  | some d' =>
    cases q' : es[i]? with
    | none => rw [q, q'] at e; cases e
    | some e' =>
      rw [q, q'] at e; cases e
      obtain ⟨v, e1, r1⟩ := rs.get q
      obtain ⟨v', e1', r1'⟩ := rs'.get q'
      refine ⟨⟨ok, ok', Nat.lt_min.mpr ⟨(List.getElem?_eq_some_iff.mp e1).1, (List.getElem?_eq_some_iff.mp e1').1⟩⟩, fun x H3 y => ?_⟩
      obtain ⟨T, z, z', rfl, nT, rfl, ez, ez'⟩ := y
      rw [e1] at ez; cases ez
      rw [e1'] at ez'; cases ez'
      exact ⟨.upd nT, R.new_tup ⟨_, _, rfl, r1, _, _, rfl, r1', rfl⟩ nT⟩
theorem di_enum (hg : Gl X "enumerate") (hm : X.mg "enumerate" = none) (ha : DA X W [e] fs) (hs : starEach [e] X.env = [(false, eval e X.env)] := by rfl) : DI X W (.Tuple elts kk tpos) (.Call (.Name "enumerate" p) [e] [] pos) (iR enum1D fs) := by
  refine PI_imp (pi_enumS hg hm ha hs) fun σ H Q h => ?_
  obtain ⟨F, δ, pr, post⟩ := h
  refine seqAI (k := fun xs => resO (enum1D xs)) pr post fun ds vs H1 F1 hds f1 r1 post1 => ?_
  clear hds
  cases q : enum1D ds with
  | none => rw [q] at post1; exact post1.elim
  | some es =>
    rw [q] at post1
    unfold enum1D at q
    split at q
    · rename_i d
      obtain ⟨xs, q1, rfl⟩ := Option.map_eq_some_iff.mp q
      obtain ⟨v, rfl, r⟩ := r1.one
      obtain ⟨src, rfl, sr⟩ := src_of r q1
      exact ⟨src, rfl, (sr F1 H1 (fun _ z => z) (.refl F1 H1)).1, post1 _ H1 F1 (.refl F1 H1) (iter_enum 0 sr)⟩
    · cases q
theorem di_enum2 (hg : Gl X "enumerate") (hm : X.mg "enumerate" = none) (ha : DA X W [e, a] fs) (hs : starEach [e, a] X.env = (false, eval e X.env) :: starEach [a] X.env := by rfl) (hpl : (backTo pos (starEach [a] X.env)).any (·.1) = false := by rfl) :
    DI X W (.Tuple elts kk tpos) (.Call (.Name "enumerate" p) [e, a] [] pos) (iR enum2D fs) := by
  refine PI_imp (pi_enumK hg hm ha hs hpl) fun σ H Q h => ?_
  obtain ⟨F, δ, pr, post⟩ := h
  refine seqAI (k := fun xs => resO (enum2D xs)) pr post fun ds vs H1 F1 hds f1 r1 post1 => ?_
  clear hds
  cases q : enum2D ds with
  | none => rw [q] at post1; exact post1.elim
  | some es =>
    rw [q] at post1
    unfold enum2D at q
    split at q
    · rename_i d k
      split at q
      · rename_i hk
        obtain ⟨xs, q1, rfl⟩ := Option.map_eq_some_iff.mp q
        obtain ⟨v, u, rfl, r, r'⟩ := r1.two
        cases (show u = V.int k from r')
        obtain ⟨src, rfl, sr⟩ := src_of r q1
        exact ⟨src, k, rfl, (sr F1 H1 (fun _ z => z) (.refl F1 H1)).1, of_decide_eq_true hk, post1 _ H1 F1 (.refl F1 H1) (iter_enum k sr)⟩
      · cases q
    · cases q
theorem di_zip (hg : Gl X "zip") (hm : X.mg "zip" = none) (ha : DA X W [a, b] fs) (hs : starEach [a, b] X.env = (false, eval a X.env) :: starEach [b] X.env := by rfl) (hpl : (backTo pos (starEach [b] X.env)).any (·.1) = false := by rfl) :
    DI X W (.Tuple elts kk tpos) (.Call (.Name "zip" p) [a, b] [] pos) (iR zipD fs) := by
  refine PI_imp (pi_zipS hg hm ha hs hpl) fun σ H Q h => ?_
  obtain ⟨F, δ, pr, post⟩ := h
  refine seqAI (k := fun xs => resO (zipD xs)) pr post fun ds vs H1 F1 hds f1 r1 post1 => ?_
  clear hds
  cases q : zipD ds with
  | none => rw [q] at post1; exact post1.elim
  | some es =>
    rw [q] at post1
    unfold zipD at q
    split at q
    · rename_i d d'
      cases q1 : walkD d with
      | none => rw [q1] at q; cases q
      | some xs =>
        rw [q1] at q
        obtain ⟨ys, q2, rfl⟩ := Option.map_eq_some_iff.mp q
        obtain ⟨v, u, rfl, r, r'⟩ := r1.two
        obtain ⟨src, rfl, sr⟩ := src_of r q1
        obtain ⟨src', rfl, sr'⟩ := src_of r' q2
        exact ⟨src, src', rfl, (sr F1 H1 (fun _ z => z) (.refl F1 H1)).1, (sr' F1 H1 (fun _ z => z) (.refl F1 H1)).1, post1 _ H1 F1 (.refl F1 H1) (iter_zip sr sr')⟩
    · cases q
end
end Dn

set_option Elab.async false
set_option linter.all false
set_option maxRecDepth 100000
set_option autoImplicit false
set_option maxHeartbeats 4000000
namespace Dn
open PySem PySem.Spec L2
open PyProof.Rows hiding St

/-! ### own defs: what they promise, their calls -/
def PostF (M : Md) (o : Bool) (F : Fz) (H : Hp) (Q : VK) (E : XK) : Res D → Prop
  | .ok d => ∀ v H' F', Fresh F H F' H' → Got M o F' H H' d v → Q v H'
  | .ex c fs => ∀ cls dx H' F', Fresh F H F' H' → ExR M F' H' c fs cls dx → E cls dx H'
  | .bad => False
/-- called with values that are told ds it does as den ds says, and changes nothing that stood -/
def spP (M : Md) (o : Bool) (den : List D → Res D) : Sp := fun vs H Q E => ∃ F ds, Dom F H ∧ Rs M F H ds vs ∧ PostF M o F H Q E (den ds)
abbrev W0 : WX := fun _ _ _ _ => False
section
variable {X : Cx} {W : WX} {e a b c : Expr} {es : List Expr} {fa : DS → Res D} {fs : DS → Res (List D)} {tg : Expr} {pos p tpos : Pos} {elts : List Expr} {kk : Nat} {o : Bool}
def pCall (den : List D → Res D) (fs : DS → Res (List D)) : DS → Res D := fun δ => (fs δ).bind den
theorem dp_call {k : Nat} {f : Addr} {fd : FuncData} {ps : List Str} {x : Str} {den : List D → Res D} (tk : Takes X W) (G : FnOk X.prog X.w X.K X.mg X.base (L2.CX X.prog X.w) k f fd ps (spP (mdOf X) o den)) (hr : Room k X.A) (hg : Gl X x) (hm : X.mg x = some (.ref f))
    (hk : PySem.W.keepIn X.K (.ref f) = true) (hb : Binds X.K fd ps []) (ha : DA X W (e :: es) fs) (hdb : (x == ("__debug__" : Str)) = false := by decide)
    (he : starEach (e :: es) X.env = (false, eval e X.env) :: starEach es X.env := by rfl) (hpl : (backTo pos (starEach es X.env)).any (·.1) = false := by rfl) :
    DP X W (.Call (.Name x p) (e :: es) [] pos) o (pCall den fs) := by
  refine PE_imp (pe_callS G hr hg hm hk hb (fun σ => passAt tk σ) ha hdb he hpl) fun σ H Q h => ?_
  obtain ⟨F, δ, pr, post⟩ := h
  refine seqA (k := den) pr post fun ds vs H1 F1 hds f1 r1 post1 => ?_
  refine ⟨F1, ds, pr.dom.fr f1, r1, ?_⟩
  cases q : den ds with
  | ok d => rw [q] at post1; exact post1
  | ex c fs => rw [q] at post1; exact post1
  | bad => rw [q] at post1; exact post1

/-! ### targets -/
/-- slots are set, one behind the other -/
def putAll {α : Type} (l : List (Option α)) : List (Nat × α) → List (Option α)
  | [] => l
  | p :: ps => putAll (l.set p.1 (some p.2)) ps
abbrev Asg (M : Md) (F : Fz) (H : Hp) : List (Nat × D) → List (Nat × V) → Prop := Paired fun p q => p.1 = q.1 ∧ R M F H p.2 q.2
/-- a target: what it sets of a value -/
def tPG (M : Md) (t : D → Option (List (Nat × D))) : TG := fun v σ H Q => ∃ F d as, R M F H d v ∧ t d = some as ∧ ∀ bs, Asg M F H as bs → Q (putAll σ bs) H
def tPGs (M : Md) (t : List D → Option (List (Nat × D))) : TGs := fun vs σ H Q => ∃ F ds as, Rs M F H ds vs ∧ t ds = some as ∧ ∀ bs, Asg M F H as bs → Q (putAll σ bs) H
structure DG (X : Cx) (tg : Expr) (is : List Nat) (t : D → Option (List (Nat × D))) : Prop where
  pg : PG X tg (tPG (mdOf X) t)
  sl : ∀ d as, t d = some as → as.map (·.1) = is
structure DGs (X : Cx) (tg : List Expr) (is : List Nat) (t : List D → Option (List (Nat × D))) : Prop where
  pg : PGs X tg (tPGs (mdOf X) t)
  sl : ∀ d as, t d = some as → as.map (·.1) = is
theorem PG_imp {e : Expr} {t t' : TG} (h : PG X e t) (i : ∀ v σ H Q, t' v σ H Q → t v σ H Q) : PG X e t' := ⟨fun pins s σ H v u Q I r q => h.run pins s σ H v u Q I r (i v σ H Q q)⟩
theorem PGs_imp {e : List Expr} {t t' : TGs} (h : PGs X e t) (i : ∀ v σ H Q, t' v σ H Q → t v σ H Q) : PGs X e t' := ⟨fun pins s σ H v u Q I r q => h.run pins s σ H v u Q I r (i v σ H Q q)⟩
theorem PR.set {M : Md} {F : Fz} {H : Hp} {σ : L2.St} {δ : DS} {d : D} {v : V} (p : PR M F H σ δ) (i : Nat) (r : R M F H d v) : PR M F H (σ.set i (some v)) (δ.set i (some d)) := by
  refine ⟨p.dom, by rw [List.length_set, List.length_set]; exact p.len, fun j e h => ?_⟩
  by_cases q : i = j
  · subst q
    by_cases hl : i < δ.length
    · rw [List.getElem?_set_self hl] at h; cases h
      exact ⟨v, List.getElem?_set_self (p.len ▸ hl), r⟩
    · rw [List.getElem?_eq_none (by rw [List.length_set]; omega)] at h; cases h
  · rw [List.getElem?_set_ne q] at h ⊢
    exact p.at_ j e h
theorem PR.putAll {M : Md} {F : Fz} {H : Hp} : ∀ {as : List (Nat × D)} {bs : List (Nat × V)} {σ : L2.St} {δ : DS}, PR M F H σ δ → Asg M F H as bs → PR M F H (Dn.putAll σ bs) (Dn.putAll δ as)
  | [], [], _, _, p, _ => p
  | a :: as, b :: bs, σ, δ, p, .cons h t => by
    obtain ⟨i, d⟩ := a
    obtain ⟨j, v⟩ := b
    obtain ⟨e, r⟩ := h
    cases (show i = j from e)
    show PR M F H (Dn.putAll (σ.set i (some v)) bs) (Dn.putAll (δ.set i (some d)) as)
    exact PR.putAll (p.set i r) t
theorem Asg.slots {M : Md} {F : Fz} {H : Hp} : ∀ {as : List (Nat × D)} {bs : List (Nat × V)}, Asg M F H as bs → bs.map (·.1) = as.map (·.1)
  | [], [], _ => rfl
  | a :: as, b :: bs, .cons h t => by rw [List.map_cons, List.map_cons, Asg.slots t, h.1]
theorem Asg.app {M : Md} {F : Fz} {H : Hp} : ∀ {as as' : List (Nat × D)} {bs bs' : List (Nat × V)}, Asg M F H as bs → Asg M F H as' bs' → Asg M F H (as ++ as') (bs ++ bs')
  | [], _, [], _, _, k => k
  | a :: as, _, b :: bs, _, .cons h t, k => .cons h (Asg.app t k)
theorem putAll_app {α : Type} (l : List (Option α)) : ∀ (a b : List (Nat × α)), putAll l (a ++ b) = putAll (putAll l a) b
  | [], _ => rfl
  | p :: ps, b => putAll_app (l.set p.1 (some p.2)) ps b
theorem putAll_len {α : Type} : ∀ (l : List (Option α)) (a : List (Nat × α)), (putAll l a).length = l.length
  | _, [] => rfl
  | l, p :: ps => (putAll_len (l.set p.1 (some p.2)) ps).trans List.length_set
theorem putAll_ne {α : Type} {j : Nat} : ∀ (l : List (Option α)) (a : List (Nat × α)), j ∉ a.map (·.1) → (putAll l a)[j]? = l[j]?
  | _, [], _ => rfl
  | l, p :: ps, h => by
    rw [List.map_cons, List.mem_cons, not_or] at h
    exact (putAll_ne (l.set p.1 (some p.2)) ps h.2).trans (List.getElem?_set_ne (Ne.symm h.1))
def setD (i : Nat) : D → Option (List (Nat × D)) := fun d => some [(i, d)]
theorem dg_name {i : Nat} {x : Str} (hN : X.N.Nodup) (hi : X.N[i]? = some x) (hx : Loc X.env.scope x) (hf : X.fn x = true ∨ X.env.scope.names.lookup x = some .local := by first | exact .inl rfl | exact .inr rfl | assumption) : DG X (.Name x pos) [i] (setD i) := by
  refine ⟨PG_imp (pg_name hN hi hx hf) fun v σ H Q h => ?_, fun d as e => by cases e; rfl⟩
  obtain ⟨F, d, as, r, e, q⟩ := h
  cases e
  exact q [(i, v)] (.cons ⟨rfl, r⟩ .nil)
def gsNil : List D → Option (List (Nat × D))
  | [] => some []
  | _ => none
def gsCons (t : D → Option (List (Nat × D))) (u : List D → Option (List (Nat × D))) : List D → Option (List (Nat × D))
  | d :: ds => (t d).bind fun a => (u ds).bind fun b => some (a ++ b)
  | [] => none
theorem dgs_nil : DGs X [] [] gsNil := by
  refine ⟨PGs_imp pgs_nil fun vs σ H Q h => ?_, fun d as e => ?_⟩
  · obtain ⟨F, ds, as, r, e, q⟩ := h
    cases ds with
    | nil => cases e; exact ⟨r, q [] .nil⟩
    | cons d ds => cases e
  · cases d with
    | nil => cases e; rfl
    | cons d ds => cases e
theorem dgs_cons {es : List Expr} {is js : List Nat} {t : D → Option (List (Nat × D))} {u : List D → Option (List (Nat × D))} (h1 : DG X e is t) (h2 : DGs X es js u)
    (hs : (assignEach (e :: es) X.env).map (·.2) = assign e X.env :: (assignEach es X.env).map (·.2) := by rfl) : DGs X (e :: es) (is ++ js) (gsCons t u) := by
  have key : ∀ {d : D} {ds : List D} {as : List (Nat × D)}, gsCons t u (d :: ds) = some as → ∃ a b, t d = some a ∧ u ds = some b ∧ as = a ++ b := fun {d ds as} e => by
    change ((t d).bind fun a => (u ds).bind fun b => some (a ++ b)) = some as at e
    cases e1 : t d with
    | none => rw [e1] at e; cases e
    | some a =>
      cases e2 : u ds with
      | none => rw [e1, e2] at e; cases e
      | some b => rw [e1, e2] at e; cases e; exact ⟨a, b, rfl, rfl, rfl⟩
  refine ⟨PGs_imp (pgs_cons h1.pg h2.pg hs) fun vs σ H Q h => ?_, fun d as e => ?_⟩
  · obtain ⟨F, ds, as, r, e, q⟩ := h
    cases ds with
    | nil => cases e
    | cons d ds =>
      obtain ⟨v, us, rfl, r1, r2⟩ := r
      obtain ⟨a, b, e1, e2, rfl⟩ := key e
      exact ⟨v, us, rfl, F, d, a, r1, e1, fun bs hb => ⟨F, ds, b, r2, e2, fun cs hc => by rw [← putAll_app]; exact q _ (hb.app hc)⟩⟩
  · cases d with
    | nil => cases e
    | cons d ds => obtain ⟨a, b, e1, e2, rfl⟩ := key e; rw [List.map_append, h1.sl _ _ e1, h2.sl _ _ e2]
/-- n names: u takes just n -/
def tupN (n : Nat) (u : List D → Option (List (Nat × D))) : D → Option (List (Nat × D))
  | .tup ds => if ds.length = n then u ds else none
  | _ => none
theorem dg_tup {es : List Expr} {k n : Nat} {is : List Nat} {u : List D → Option (List (Nat × D))} (hc : X.calm = true) (h : DGs X es is u)
    (hn : (assignEach es X.env).length = n := by rfl) (hst : (assignEach es X.env).findIdx? (·.1) = none := by rfl) : DG X (.Tuple es k pos) is (tupN n u) := by
  refine ⟨PG_imp (pg_tup hc h.pg hn hst) fun v σ H Q h => ?_, fun d as e => ?_⟩
  · obtain ⟨F, d, as, r, e, q⟩ := h
    cases d with
    | tup ds =>
      obtain ⟨a, us, rfl, t, rs⟩ := r
      change (if ds.length = n then u ds else none) = some as at e
      split at e
      · rename_i hl
        exact ⟨a, us, rfl, t, by rw [← rs.length]; exact hl, F, ds, as, rs, e, q⟩
      · cases e
    | _ => cases e
  · cases d with
    | tup ds =>
      change (if ds.length = n then u ds else none) = some as at e
      split at e
      · exact h.sl _ _ e
      · cases e
    | _ => cases e

/-! ### comprehensions -/
def wipeD (δ : DS) : List Nat → DS
  | [] => δ
  | v :: vs => (wipeD δ vs).set v none
theorem PR.wipe {M : Md} {F : Fz} {H : Hp} {σ : L2.St} {δ : DS} (p : PR M F H σ δ) : ∀ vs : List Nat, PR M F H (wipe σ vs) (wipeD δ vs)
  | [] => p
  | v :: vs => by
    have q := PR.wipe p vs
    refine ⟨q.dom, by unfold wipeD L2.wipe; rw [List.length_set, List.length_set]; exact q.len, fun j e h => ?_⟩
    unfold wipeD at h
    unfold L2.wipe
    by_cases z : v = j
    · subst z
      by_cases hl : v < (wipeD δ vs).length
      · rw [List.getElem?_set_self hl] at h; cases h
      · rw [List.getElem?_eq_none (by rw [List.length_set]; omega)] at h; cases h
    · rw [List.getElem?_set_ne z] at h ⊢
      exact q.at_ j e h
theorem wipe_get {σ : L2.St} {j : Nat} : ∀ {vs : List Nat}, (wipe σ vs)[j]? = if j ∈ vs ∧ j < σ.length then some none else σ[j]?
  | [] => by simp [wipe]
  | v :: vs => by
    unfold wipe
    by_cases z : v = j
    · subst z
      by_cases hl : v < σ.length
      · rw [List.getElem?_set_self (by rw [wipe_length]; exact hl), if_pos ⟨List.mem_cons_self, hl⟩]
      · rw [List.getElem?_eq_none (by rw [List.length_set, wipe_length]; omega), if_neg (fun q => hl q.2), List.getElem?_eq_none (by omega)]
    · rw [List.getElem?_set_ne z, wipe_get]
      have : (j ∈ v :: vs) ↔ j ∈ vs := by simp [Ne.symm z]
      simp only [this]
theorem wipe_eq {σ σ2 : L2.St} {vs : List Nat} (hl : σ2.length = σ.length) (h : ∀ j, j ∉ vs → σ2[j]? = (wipe σ vs)[j]?) : wipe σ2 vs = wipe σ vs := by
  refine List.ext_getElem? fun j => ?_
  rw [wipe_get, wipe_get, hl]
  by_cases q : j ∈ vs
  · by_cases z : j < σ.length
    · rw [if_pos ⟨q, z⟩, if_pos ⟨q, z⟩]
    · rw [if_neg (fun y => z y.2), if_neg (fun y => z y.2), List.getElem?_eq_none (by omega), List.getElem?_eq_none (by omega)]
  · rw [if_neg (fun y => q y.1), if_neg (fun y => q y.1), h j q, wipe_get, if_neg (fun y => q y.1)]
def lcL (g : D → Res (Option D)) : List D → Res (List D)
  | [] => .ok []
  | d :: ds => match g d with
    | .ok none => lcL g ds
    | .ok (some y) => (lcL g ds).bind fun ys => .ok (y :: ys)
    | _ => .bad
/-- one turn at the slots δ -/
def lcT (vs : List Nat) (t : D → Option (List (Nat × D))) (ft : DS → Res Bool) (fe : DS → Res D) (δ : DS) (d : D) : Res (Option D) := match t d with
  | none => .bad
  | some as => match ft (putAll (wipeD δ vs) as) with
    | .ok false => .ok none
    | .ok true => match fe (putAll (wipeD δ vs) as) with
      | .ok y => .ok (some y)
      | _ => .bad
    | _ => .bad
def pLc (vs : List Nat) (fi : DS → Res (List D)) (t : D → Option (List (Nat × D))) (ft : DS → Res Bool) (fe : DS → Res D) : DS → Res D := fun δ => (fi δ).bind fun ds => match lcL (lcT vs t ft fe δ) ds with
  | .ok ys => if ys.length ≤ LN then .ok (.lst ys) else .bad
  | _ => .bad
def DTs (X : Cx) (W : WX) (es : List Expr) (f : DS → Res Bool) : Prop := PTs X es (tPB (mdOf X) W f)
def bYes : DS → Res Bool := fun _ => .ok true
theorem PTs_imp {e : List Expr} {t t' : TT} (h : PTs X e t) (i : ∀ σ H Q, t' σ H Q → t σ H Q) : PTs X e t' := ⟨fun pins s σ H Q I q => h.run pins s σ H Q I (i σ H Q q)⟩
theorem dts_nil : DTs X W [] bYes := PTs_imp pts_nil fun σ H Q h => by
  obtain ⟨F, δ, pr, post⟩ := h
  exact post H F (.refl F H)
theorem dts_one {f : DS → Res Bool} (h : DT X W e f) : DTs X W [e] f := pts_one h
theorem Mono.updN {F : Fz} {H : Hp} {p : Addr} {o o' : HO} (nf : ¬ F p) (h : H p = some o) (mu : Mut (some o)) : Mono F H (upd H p o') := fun a u e q => by
  have : a ≠ p := fun z => by
    subst z
    rw [h] at e; cases e
    rcases q with q | q
    · exact nf q
    · exact q mu
  rw [upd_ne this]; exact e
theorem lcL_step {g : D → Res (Option D)} {ds : List D} {ys : List D} (h : lcL g ds = .ok ys) {i : Nat} {d : D} (hd : ds[i]? = some d) :
    ∃ r rest, lcL g (ds.drop i) = .ok (r.toList ++ rest) ∧ g d = .ok r ∧ lcL g (ds.drop (i + 1)) = .ok rest := by
  induction ds generalizing i ys with
  | nil => simp at hd
  | cons x ds ih =>
    have hx : ∃ r rest, g x = .ok r ∧ lcL g ds = .ok rest ∧ lcL g (x :: ds) = .ok (r.toList ++ rest) := by
      cases q : g x with
      | ok r =>
        cases r with
        | none =>
          have e : lcL g (x :: ds) = lcL g ds := by show (match g x with | .ok none => lcL g ds | .ok (some y) => _ | _ => _) = _; rw [q]
          rw [e] at h
          exact ⟨none, ys, rfl, h, by rw [e, h]; rfl⟩
        | some y =>
          have e : lcL g (x :: ds) = (lcL g ds).bind fun ys => .ok (y :: ys) := by show (match g x with | .ok none => lcL g ds | .ok (some y) => _ | _ => _) = _; rw [q]
          cases q2 : lcL g ds with
          | ok zs => exact ⟨some y, zs, rfl, rfl, by rw [e, q2]; rfl⟩
          | ex c fs => rw [e, q2] at h; cases h
          | bad => rw [e, q2] at h; cases h
      | ex c fs => have e : lcL g (x :: ds) = .bad := (by show (match g x with | .ok none => lcL g ds | .ok (some y) => _ | _ => _) = _; rw [q]); rw [e] at h; cases h
      | bad => have e : lcL g (x :: ds) = .bad := (by show (match g x with | .ok none => lcL g ds | .ok (some y) => _ | _ => _) = _; rw [q]); rw [e] at h; cases h
    obtain ⟨r, rest, h1, h2, h3⟩ := hx
    cases i with
    | zero => cases hd; exact ⟨r, rest, h3, h1, h2⟩
    | succ i => exact ih h2 hd
/-- a comprehension, in its reading -/
theorem tLc_of {vs is : List Nat} {t : D → Option (List (Nat × D))} {fi : DS → Res (List D)} {ft : DS → Res Bool} {fe : DS → Res D} (his : ∀ i ∈ is, i ∈ vs) (tsl : ∀ d as, t d = some as → as.map (·.1) = is) {σ : L2.St} {H : Hp} {Q : VK}
    (h : tP (mdOf X) W true (pLc vs fi t ft fe) σ H Q) : tLc (tPI (mdOf X) W fi) (tPG (mdOf X) t) (tPB (mdOf X) W0 ft) (tP (mdOf X) W0 false fe) vs σ H Q := by
  obtain ⟨F, δ, pr, post⟩ := h
  show tPI (mdOf X) W fi σ H _
  refine ⟨F, δ, pr, ?_⟩
  unfold pLc at post
  cases ei : fi δ with
  | ex c fs => rw [ei] at post; exact post
  | bad => rw [ei] at post; exact post.elim
  | ok ds =>
    rw [ei] at post
    cases el : lcL (lcT vs t ft fe δ) ds with
    | ex c fs => simp only [Res.bind, el] at post; exact post.elim
    | bad => simp only [Res.bind, el] at post; exact post.elim
    | ok ys =>
      simp only [Res.bind, el] at post
      by_cases hsz : ys.length ≤ LN
      case neg => rw [if_neg hsz] at post; exact post.elim
      rw [if_pos hsz] at post
      intro J H1 F1 f1 hit D hD
      have dom1 : Dom F1 H1 := pr.dom.fr f1
      refine ⟨fun i m Hc => m = ds.length - i ∧ i ≤ ds.length ∧ ∃ Fc done acc, (∀ a, F1 a → Fc a) ∧ Same H1 Hc ∧ (∀ a, Fc a → F1 a ∨ (H1 a = none ∧ Hc a ≠ none)) ∧ ¬ Fc D ∧ Hc D = some (.lst acc) ∧ Rs (mdOf X) Fc Hc done acc ∧
        ∃ rest, lcL (lcT vs t ft fe δ) (ds.drop i) = .ok rest ∧ ys = done ++ rest, ⟨ds.length, rfl, Nat.zero_le _, F1, [], [], fun _ h => h, same_upd hD, fun a h => .inl h, fun h => dom1 D h hD, upd_same, rfl, ys, el, rfl⟩, ?_⟩
      rintro i m Hc ⟨rfl, hi, Fc, done, acc, le, sm, nw, nf, eD, rs, rest, er, ey⟩
      have mono1 : Mono F1 H1 Hc := .of_same sm
      obtain ⟨goes, stops⟩ := hit Fc Hc le mono1
      by_cases hlt : i < ds.length
      · refine .inr ?_
        have hd : ds[i]? = some ds[i] := List.getElem?_eq_getElem hlt
        obtain ⟨r, rest', e1, e2, e3⟩ := lcL_step el hd
        rw [er] at e1
        cases e1
        obtain ⟨go, yld⟩ := goes i _ hd
        refine ⟨go, fun H' => ∃ Fc done acc, (∀ a, F1 a → Fc a) ∧ Same H1 H' ∧ (∀ a, Fc a → F1 a ∨ (H1 a = none ∧ H' a ≠ none)) ∧ ¬ Fc D ∧ H' D = some (.lst acc) ∧ Rs (mdOf X) Fc H' done acc ∧
          ∃ rest, lcL (lcT vs t ft fe δ) (ds.drop (i + 1)) = .ok rest ∧ ys = done ++ rest, fun H' hN => ⟨ds.length - (i + 1), by omega, rfl, hlt, hN⟩, fun x H2 hy => ?_⟩
        obtain ⟨f2, rx⟩ := yld x H2 hy
        -- the slots as they stand here
        have frc : Fresh F1 H1 Fc Hc := ⟨le, sm, nw⟩
        have pr2 : PR (mdOf X) Fc H2 (wipe σ vs) (wipeD δ vs) := (((pr.fr f1).fr frc).fr f2).wipe vs
        have fr2 : Fresh F1 H1 Fc H2 := frc.trans f2
        have eD2 : H2 D = some (.lst acc) := f2.same _ _ eD
        have rs2 : Rs (mdOf X) Fc H2 done acc := rs.fr f2
        unfold lcT at e2
        cases et : t ds[i] with
        | none => rw [et] at e2; cases e2
        | some as =>
          rw [et] at e2
          refine ⟨Fc, ds[i], as, rx, et, fun bs hbs => ⟨?_, ?_⟩⟩
          · refine wipe_eq ((putAll_len _ _).trans (wipe_length σ vs)) fun j hj => putAll_ne _ _ fun z => hj (his j ?_)
            rw [hbs.slots, tsl _ _ et] at z
            exact z
          · have pr3 := pr2.putAll hbs
            dsimp only at e2
            generalize putAll (wipeD δ vs) as = δ' at pr3 e2
            generalize putAll (wipe σ vs) bs = σ' at pr3
            refine ⟨Fc, δ', pr3, ?_⟩
            cases eb : ft δ' with
            | ex c fs => rw [eb] at e2; cases e2
            | bad => rw [eb] at e2; cases e2
            | ok b =>
              rw [eb] at e2
              intro H3 F3 f3
              have keep : ∀ {H4 : Hp} {F4 : Fz}, Fresh Fc H2 F4 H4 → (∀ a, F1 a → F4 a) ∧ Same H1 H4 ∧ (∀ a, F4 a → F1 a ∨ (H1 a = none ∧ H4 a ≠ none)) ∧ ¬ F4 D ∧ H4 D = some (.lst acc) ∧ Rs (mdOf X) F4 H4 done acc := fun {H4 F4} f4 => by
                have g := fr2.trans f4
                exact ⟨g.le, g.same, g.new, (fun z => (f4.new D z).elim nf (fun q => by rw [eD2] at q; exact nomatch q.1)), f4.same _ _ eD2, rs2.fr f4⟩
              cases b with
              | false =>
                cases e2
                refine iteF ?_
                obtain ⟨k1, k2, k3, k4, k5, k6⟩ := keep f3
                exact ⟨F3, done, acc, k1, k2, k3, k4, k5, k6, rest', e3, ey⟩
              | true =>
                refine iteT ⟨F3, δ', pr3.fr f3, ?_⟩
                cases ee : fe δ' with
                | ex c fs => rw [ee] at e2; cases e2
                | bad => rw [ee] at e2; cases e2
                | ok y =>
                  rw [ee] at e2
                  cases e2
                  intro u H4 F4 f4 ru
                  obtain ⟨k1, k2, k3, k4, k5, k6⟩ := keep (f3.trans f4)
                  have hlen : acc.length < sizeLine := by
                    rw [line_eq, ← k6.length]
                    rw [ey, List.length_append] at hsz
                    simp only [Option.toList_some, List.length_append, List.length_cons, List.length_nil] at hsz
                    omega
                  have mn : Mono F4 H4 (upd H4 D (.lst (acc ++ [u]))) := Mono.updN k4 k5 trivial
                  refine ⟨acc, k5, hlen, F4, done ++ [y], acc ++ [u], k1, fun a o z => ?_, fun a z => ?_, k4, upd_same, Rs.app (k6.mono mn fun _ z => z) ⟨u, [], rfl, R.mono mn (fun _ z => z) y u ru, rfl⟩, rest', e3, ?_⟩
                  · have : a ≠ D := fun q => by subst q; rw [hD] at z; cases z
                    rw [upd_ne this]; exact k2 a o z
                  · rcases k3 a z with q | ⟨q1, q2⟩
                    · exact .inl q
                    · refine .inr ⟨q1, ?_⟩
                      by_cases w : a = D
                      · subst w; rw [upd_same]; exact fun z => nomatch z
                      · rw [upd_ne w]; exact q2
                  · rw [ey, List.append_assoc]; rfl
      · have hi : i = ds.length := by omega
        subst hi
        rw [List.drop_length] at er
        cases er
        rw [List.append_nil] at ey
        subst ey
        exact .inl ⟨stops, post _ Hc Fc (f1.trans ⟨le, sm, nw⟩) ⟨D, rfl, f1.same.free hD, nf, acc, eD, rs⟩⟩
theorem dp_lc {elt : Expr} {ifs : List Expr} {scope : Scope} {own : List (Str × Nat)} {is : List Nat} {t : D → Option (List (Nat × D))} {fi : DS → Res (List D)} {ft : DS → Res Bool} {fe : DS → Res D} (hc : X.calm = true) (hN : X.N.Nodup) (hi : DI X W tg e fi) (ok : BlkOk X.N X.env.scope scope own)
    (hg : ∀ (s : Shared) (H : Hp) (C : Addr) (cl : List (Str × Addr)) (fp : List Addr), DG (X.blk s H scope (compEnvC scope cl C X.env) fp) tg is t) (ht : ∀ (s : Shared) (H : Hp) (C : Addr) (cl : List (Str × Addr)) (fp : List Addr), DTs (X.blk s H scope (compEnvC scope cl C X.env) fp) W0 ifs ft)
    (he : ∀ (s : Shared) (H : Hp) (C : Addr) (cl : List (Str × Addr)) (fp : List Addr), DP (X.blk s H scope (compEnvC scope cl C X.env) fp) W0 elt false fe) (his : ∀ i ∈ is, i ∈ own.map (·.2) := by decide) (hs : ∀ x, foldedSetIterable e X.env x = pure x := by intro _; rfl) :
    DP X W (.ListComp elt [⟨tg, e, ifs, 0⟩] scope pos) true (pLc (own.map (·.2)) fi t ft fe) :=
  ⟨fun pins s σ H Q I q => (pe_lc (wi := tPI (mdOf X) W fi) (g := tPG (mdOf X) t) (tt := tPB (mdOf X) W0 ft) (te := tP (mdOf X) W0 false fe) hc hN hi ok (fun s H C cl fp => (hg s H C cl fp).pg) ht he hs).run pins s σ H Q I (tLc_of his (hg s H 0 [] []).sl q)⟩
end
end Dn

set_option Elab.async false
set_option linter.all false
set_option maxRecDepth 100000
set_option autoImplicit false
set_option maxHeartbeats 4000000
namespace Dn
open PySem PySem.Spec L2
open PyProof.Rows hiding St

/-! ### a def's own state: what it holds alone, what it was handed to change -/
/-- a def's entry: what was frozen, the heap, the objects it may change (slot, place) -/
structure FC where
  F0 : Fz
  H0 : Hp
  io : List (Nat × Addr)
/-- the heap since the entry -/
structure Hpo (Y : FC) (F : Fz) (H : Hp) : Prop where
  le : ∀ a, Y.F0 a → F a
  new : ∀ a, F a → Y.F0 a ∨ (Y.H0 a = none ∧ H a ≠ none)
  same : ∀ a o, Y.H0 a = some o → (∀ p ∈ Y.io, p.2 ≠ a) → H a = some o
  there : ∀ a, Y.H0 a ≠ none → H a ≠ none
  dom : Dom F H
structure Step (F : Fz) (H : Hp) (F' : Fz) (H' : Hp) : Prop where
  le : ∀ a, F a → F' a
  mono : Mono F H H'
theorem Step.refl {F : Fz} {H : Hp} : Step F H F H := ⟨fun _ h => h, .refl F H⟩
theorem Step.trans {F F1 F2 : Fz} {H H1 H2 : Hp} (a : Step F H F1 H1) (b : Step F1 H1 F2 H2) : Step F H F2 H2 := ⟨fun x h => b.le x (a.le x h), a.mono.trans a.le b.mono⟩
theorem Fresh.step {F F1 : Fz} {H H1 : Hp} (a : Fresh F H F1 H1) : Step F H F1 H1 := ⟨a.le, a.mono⟩
theorem R.st {M : Md} {F F1 : Fz} {H H1 : Hp} (a : Step F H F1 H1) {d : D} {v : V} (h : R M F H d v) : R M F1 H1 d v := h.mono a.mono a.le
theorem Rs.st {M : Md} {F F1 : Fz} {H H1 : Hp} (a : Step F H F1 H1) {d : List D} {v : List V} (h : Rs M F H d v) : Rs M F1 H1 d v := h.mono a.mono a.le
theorem Hpo.fr {Y : FC} {F F1 : Fz} {H H1 : Hp} (h : Hpo Y F H) (a : Fresh F H F1 H1) : Hpo Y F1 H1 :=
  ⟨fun x q => a.le x (h.le x q), fun x q => (a.new x q).elim (fun q => (h.new x q).imp id fun ⟨n, m⟩ => ⟨n, Same.ne a.same m⟩) fun ⟨n, m⟩ => .inr ⟨by
      cases e : Y.H0 x with
      | none => rfl
      | some o => exact absurd n (h.there x (by rw [e]; exact fun z => nomatch z)), m⟩,
    fun x o e w => a.same x o (h.same x o e w), fun x q => Same.ne a.same (h.there x q), h.dom.fr a⟩
/-- the slots: those in G hold objects of the def's own -/
structure SR (M : Md) (io : List Nat) (Y : FC) (F : Fz) (G : List Nat) (H : Hp) (σ : L2.St) (δ : DS) : Prop where
  hp : Hpo Y F H
  len : δ.length = σ.length
  sh : ∀ (i : Nat) (d : D), δ[i]? = some (some d) → i ∉ G → ∃ v, σ[i]? = some (some v) ∧ R M F H d v
  ow : ∀ (i : Nat) (d : D), δ[i]? = some (some d) → i ∈ G → ∃ a, σ[i]? = some (some (.ref a)) ∧ ¬ F a ∧ OwnAt M F H a d ∧ (Y.H0 a = none ∨ (i, a) ∈ Y.io)
  dj : ∀ (i j : Nat) (a : Addr) (d e : D), i ∈ G → j ∈ G → δ[i]? = some (some d) → δ[j]? = some (some e) → σ[i]? = some (some (.ref a)) → σ[j]? = some (some (.ref a)) → i = j
  iol : Y.io.map (·.1) = io
  ios : ∀ p ∈ Y.io, p.1 ∈ G ∧ σ[p.1]? = some (some (.ref p.2)) ∧ ∃ d, δ[p.1]? = some (some d)
section
variable {M : Md} {io : List Nat} {Y : FC} {F F' F1 : Fz} {G : List Nat} {H H' H1 : Hp} {σ : L2.St} {δ : DS}
theorem OwnAt.notNew {a p : Addr} {d : D} (h : OwnAt M F H a d) (n : H p = none) : a ≠ p := fun e => by
  subst e; obtain ⟨o, q, _⟩ := h.there; rw [n] at q; cases q
theorem SR.fr (s : SR M io Y F G H σ δ) (f : Fresh F H F1 H1) : SR M io Y F1 G H1 σ δ := by
  refine ⟨s.hp.fr f, s.len, fun i d e n => ?_, fun i d e m => ?_, s.dj, s.iol, s.ios⟩
  · obtain ⟨v, h1, h2⟩ := s.sh i d e n
    exact ⟨v, h1, h2.fr f⟩
  · obtain ⟨a, h1, h2, h3, h4⟩ := s.ow i d e m
    obtain ⟨o, ho, _⟩ := h3.there
    refine ⟨a, h1, fun z => (f.new a z).elim h2 fun q => (by rw [ho] at q; exact nomatch q.1), h3.mono f.mono f.le ?_, h4⟩
    rw [ho, f.same _ _ ho]
theorem wipeD_get {δ : DS} {j : Nat} : ∀ {vs : List Nat}, (wipeD δ vs)[j]? = if j ∈ vs ∧ j < δ.length then some none else δ[j]?
  | [] => by simp [wipeD]
  | v :: vs => by
    have hl : ∀ vs : List Nat, (wipeD δ vs).length = δ.length := fun vs => by
      induction vs with
      | nil => rfl
      | cons v vs ih => unfold wipeD; rw [List.length_set, ih]
    unfold wipeD
    by_cases z : v = j
    · subst z
      by_cases hv : v < δ.length
      · rw [List.getElem?_set_self (by rw [hl]; exact hv), if_pos ⟨List.mem_cons_self, hv⟩]
      · rw [List.getElem?_eq_none (by rw [List.length_set, hl]; omega), if_neg (fun q => hv q.2), List.getElem?_eq_none (by omega)]
    · rw [List.getElem?_set_ne z, wipeD_get]
      have : (j ∈ v :: vs) ↔ j ∈ vs := by simp [Ne.symm z]
      simp only [this]
theorem wipeD_len {δ : DS} (vs : List Nat) : (wipeD δ vs).length = δ.length := by
  induction vs with
  | nil => rfl
  | cons v vs ih => unfold wipeD; rw [List.length_set, ih]
/-- what is not one's own, as plain values -/
theorem SR.mask (s : SR M io Y F G H σ δ) : PR M F H σ (wipeD δ G) := by
  refine ⟨s.hp.dom, by rw [wipeD_len]; exact s.len, fun i d e => ?_⟩
  rw [wipeD_get] at e
  split at e
  · cases e
  · rename_i q
    by_cases m : i ∈ G
    · have hl : ¬ i < δ.length := fun z => q ⟨m, z⟩
      rw [List.getElem?_eq_none (by omega)] at e; cases e
    · exact s.sh i d e m
/-- the places of one's own -/
def Owned (G : List Nat) (σ : L2.St) (δ : DS) (a : Addr) : Prop := ∃ i d, i ∈ G ∧ δ[i]? = some (some d) ∧ σ[i]? = some (some (.ref a))
theorem SR.owned (s : SR M io Y F G H σ δ) {a : Addr} (h : Owned G σ δ a) : ¬ F a ∧ H a ≠ none := by
  obtain ⟨i, d, m, e, q⟩ := h
  obtain ⟨b, h1, h2, h3, _⟩ := s.ow i d e m
  rw [q] at h1; cases h1
  obtain ⟨o, ho, _⟩ := h3.there
  exact ⟨h2, by rw [ho]; exact fun z => nomatch z⟩
/-- all as plain values, while nothing is changed -/
theorem SR.froz (s : SR M io Y F G H σ δ) : PR M (fun a => F a ∨ Owned G σ δ a) H σ δ := by
  refine ⟨fun a h => h.elim (s.hp.dom a) fun q => (s.owned q).2, s.len, fun i d e => ?_⟩
  by_cases m : i ∈ G
  · obtain ⟨a, h1, h2, h3, _⟩ := s.ow i d e m
    exact ⟨.ref a, h1, OwnAt.frozen (h3.mono (.refl F H) (fun _ z => .inl z) rfl) (.inr ⟨i, d, m, e, h1⟩)⟩
  · obtain ⟨v, h1, h2⟩ := s.sh i d e m
    exact ⟨v, h1, h2.mono (.refl F H) fun _ z => .inl z⟩
end
/-! data without lists or dicts -/
mutual
def clean : D → Bool
  | .tup ds => cleans ds
  | .lst _ => false
  | .dct 0 _ _ => false
  | .dct 1 _ _ => false
  | .dct _ _ vs => cleans vs
  | .fl ds => cleans ds
  | _ => true
def cleans : List D → Bool
  | [] => true
  | d :: ds => clean d && cleans ds
end
mutual
theorem R.cl {M : Md} {F F' : Fz} {H : Hp} : ∀ {d : D} {v : V}, clean d = true → R M F H d v → R M F' H d v
  | .non, _, _, h => h
  | .bl _, _, _, h => h
  | .int _, _, _, h => h
  | .str _, _, _, h => h
  | .ty _, _, _, h => h
  | .fn _, _, _, h => h
  | .tup ds, _, c, h => by obtain ⟨a, vs, e, t, r⟩ := h; exact ⟨a, vs, e, t, Rs.cl c r⟩
  | .fl ds, _, c, h => by obtain ⟨a, vs, e, t, r⟩ := h; exact ⟨a, vs, e, t, Rs.cl c r⟩
  | .lst ds, _, c, h => by cases c
  | .dct 0 _ _, _, c, _ => by cases c
  | .dct 1 _ _, _, c, _ => by cases c
  | .dct 2 _ _, _, c, h => by obtain ⟨a, vs, e, t, r⟩ := h; exact ⟨a, vs, e, t, Rs.cl c r⟩
  | .dct (n + 3) _ _, _, _, h => h.elim
theorem Rs.cl {M : Md} {F F' : Fz} {H : Hp} : ∀ {ds : List D} {vs : List V}, cleans ds = true → Rs M F H ds vs → Rs M F' H ds vs
  | [], _, _, h => h
  | d :: ds, _, c, h => by
    obtain ⟨v, r, e, h1, h2⟩ := h
    have c' : (clean d && cleans ds) = true := c
    rw [Bool.and_eq_true] at c'
    exact ⟨v, r, e, R.cl c'.1 h1, Rs.cl c'.2 h2⟩
end

/-! ### expressions in such a state -/
/-- outcomes with the slots behind -/
inductive ResS (α : Type) where
  | ok (a : α) (δ : DS) | ex (c : Str) (fs : List D) | bad
def ResS.bind {α β : Type} (r : ResS α) (k : α → DS → ResS β) : ResS β := match r with
  | .ok a δ => k a δ
  | .ex c fs => .ex c fs
  | .bad => .bad
/-- what is handed on: a value, or an object that is now one's own -/
def GotS (M : Md) (o : Bool) (Y : FC) (F' : Fz) (H' : Hp) (G : List Nat) (σ : L2.St) (δ : DS) (d : D) (v : V) : Prop :=
  if o = true then ∃ a, v = .ref a ∧ Y.H0 a = none ∧ ¬ F' a ∧ OwnAt M F' H' a d ∧ ¬ Owned G σ δ a else R M F' H' d v
def PostXS (M : Md) (W : WX) (Y : FC) (F : Fz) (H : Hp) (σ : L2.St) (c : Str) (fs : List D) : Prop := ∀ cls dx H' F', Step F H F' H' → Hpo Y F' H' → ExR M F' H' c fs cls dx → W cls dx σ H'
def PostS (M : Md) (W : WX) (io : List Nat) (o : Bool) (Y : FC) (G : List Nat) (F : Fz) (H : Hp) (σ : L2.St) (Q : VK) : ResS D → Prop
  | .ok d δ => ∀ v H' F', Step F H F' H' → SR M io Y F' G H' σ δ → GotS M o Y F' H' G σ δ d v → Q v H'
  | .ex c fs => PostXS M W Y F H σ c fs
  | .bad => False
def tX (M : Md) (W : WX) (io G : List Nat) (o : Bool) (f : DS → ResS D) (G' : List Nat) : TE := fun σ H Q => ∃ Y F δ, SR M io Y F G H σ δ ∧ PostS M W io o Y G' F H σ Q (f δ)
def DX (X : Cx) (W : WX) (io G : List Nat) (e : Expr) (o : Bool) (f : DS → ResS D) (G' : List Nat) : Prop := PE X e (tX (mdOf X) W io G o f G')
section
variable {X : Cx} {W : WX} {io G G' G1 G2 : List Nat} {e a b : Expr} {o : Bool} {pos : Pos}
/-- an expression that changes nothing, over what is not one's own -/
def xM (G : List Nat) (f : DS → Res D) : DS → ResS D := fun δ => match f (wipeD δ G) with
  | .ok d => .ok d δ
  | .ex c fs => .ex c fs
  | .bad => .bad
/-- .. over all, where what comes holds no list -/
def xZ (f : DS → Res D) : DS → ResS D := fun δ => match f δ with
  | .ok d => if clean d = true then .ok d δ else .bad
  | .ex c fs => if fs = [] then .ex c fs else .bad
  | .bad => .bad
theorem dx_m {f : DS → Res D} (h : DP X W e o f) : DX X W io G e o (xM G f) G := by
  refine PE_imp h fun σ H Q h => ?_
  obtain ⟨Y, F, δ, sr, post⟩ := h
  refine ⟨F, wipeD δ G, sr.mask, ?_⟩
  unfold xM at post
  cases q : f (wipeD δ G) with
  | bad => rw [q] at post; exact post
  | ex c fs => rw [q] at post; exact fun cls dx H' F' fr x => post cls dx H' F' fr.step (sr.hp.fr fr) x
  | ok d =>
    rw [q] at post
    intro v H' F' fr g
    refine post v H' F' fr.step (sr.fr fr) ?_
    cases o with
    | false => exact g
    | true =>
      obtain ⟨p, e, n, nf, ow⟩ := g
      refine ⟨p, e, ?_, nf, ow, fun z => (sr.owned z).2 n⟩
      cases q : Y.H0 p with
      | none => rfl
      | some ob => exact absurd n (sr.hp.there p (by rw [q]; exact fun z => nomatch z))
theorem fr_back {F : Fz} {H : Hp} {σ : L2.St} {δ : DS} {F' : Fz} {H' : Hp} (dom : ∀ a, Owned G σ δ a → ¬ F a ∧ H a ≠ none) (fr : Fresh (fun a => F a ∨ Owned G σ δ a) H F' H') : Fresh F H (fun a => F' a ∧ ¬ Owned G σ δ a) H' :=
  ⟨fun a h => ⟨fr.le a (.inl h), fun z => (dom a z).1 h⟩, fr.same, fun a h => (fr.new a h.1).elim (fun q => q.elim .inl fun z => absurd z h.2) .inr⟩
theorem dx_z {f : DS → Res D} (h : DP X W e false f) : DX X W io G e false (xZ f) G := by
  refine PE_imp h fun σ H Q h => ?_
  obtain ⟨Y, F, δ, sr, post⟩ := h
  refine ⟨_, δ, sr.froz, ?_⟩
  unfold xZ at post
  cases q : f δ with
  | bad => rw [q] at post; exact post
  | ex c fs =>
    rw [q] at post
    change PostS _ _ _ _ _ _ _ _ _ _ (if fs = [] then ResS.ex c fs else .bad) at post
    split at post
    · rename_i efs
      subst efs
      intro cls dx H' F' fr x
      have f2 := fr_back (fun a z => sr.owned z) fr
      exact post cls dx H' _ f2.step (sr.hp.fr f2) x
    · exact post.elim
  | ok d =>
    rw [q] at post
    change PostS _ _ _ _ _ _ _ _ _ _ (if clean d = true then ResS.ok d δ else .bad) at post
    split at post
    · rename_i c
      intro v H' F' fr g
      have f2 := fr_back (fun a z => sr.owned z) fr
      exact post v H' _ f2.step (sr.fr f2) (R.cl c g)
    · exact post.elim
end
end Dn

set_option Elab.async false
set_option linter.all false
set_option maxRecDepth 100000
set_option autoImplicit false
set_option maxHeartbeats 4000000
namespace Dn
open PySem PySem.Spec L2
open PyProof.Rows hiding St

def PostSA (M : Md) (W : WX) (io : List Nat) (Y : FC) (G : List Nat) (F : Fz) (H : Hp) (σ : L2.St) (Q : List V → Hp → Prop) : ResS (List D) → Prop
  | .ok d δ => ∀ v H' F', Step F H F' H' → SR M io Y F' G H' σ δ → Rs M F' H' d v → Q v H'
  | .ex c fs => PostXS M W Y F H σ c fs
  | .bad => False
def PostSB (M : Md) (W : WX) (io : List Nat) (Y : FC) (G : List Nat) (F : Fz) (H : Hp) (σ : L2.St) (Q : Bool → Hp → Prop) : ResS Bool → Prop
  | .ok b δ => ∀ H' F', Step F H F' H' → SR M io Y F' G H' σ δ → Q b H'
  | .ex c fs => PostXS M W Y F H σ c fs
  | .bad => False
def tXA (M : Md) (W : WX) (io G : List Nat) (f : DS → ResS (List D)) (G' : List Nat) : TA := fun σ H Q => ∃ Y F δ, SR M io Y F G H σ δ ∧ PostSA M W io Y G' F H σ Q (f δ)
def tXB (M : Md) (W : WX) (io G : List Nat) (f : DS → ResS Bool) (G' : List Nat) : TT := fun σ H Q => ∃ Y F δ, SR M io Y F G H σ δ ∧ PostSB M W io Y G' F H σ Q (f δ)
def DXA (X : Cx) (W : WX) (io G : List Nat) (es : List Expr) (f : DS → ResS (List D)) (G' : List Nat) : Prop := PA X es (tXA (mdOf X) W io G f G')
def DXB (X : Cx) (W : WX) (io G : List Nat) (e : Expr) (f : DS → ResS Bool) (G' : List Nat) : Prop := PT X e (tXB (mdOf X) W io G f G')
section
variable {M : Md} {W : WX} {io : List Nat} {o : Bool} {Y : FC} {G G1 G2 : List Nat} {F F1 : Fz} {H H1 : Hp} {σ : L2.St} {δ : DS}
theorem PostXS.step {c : Str} {fs : List D} (a : Step F H F1 H1) (p : PostXS M W Y F H σ c fs) : PostXS M W Y F1 H1 σ c fs := fun cls dx H' F' f hp x => p cls dx H' F' (a.trans f) hp x
theorem PostS.step {Q : VK} (a : Step F H F1 H1) : ∀ {r : ResS D}, PostS M W io o Y G F H σ Q r → PostS M W io o Y G F1 H1 σ Q r
  | .ok d δ, p => fun v H' F' f s g => p v H' F' (a.trans f) s g
  | .ex c fs, p => PostXS.step a p
  | .bad, p => p.elim
theorem PostSA.step {Q : List V → Hp → Prop} (a : Step F H F1 H1) : ∀ {r : ResS (List D)}, PostSA M W io Y G F H σ Q r → PostSA M W io Y G F1 H1 σ Q r
  | .ok d δ, p => fun v H' F' f s g => p v H' F' (a.trans f) s g
  | .ex c fs, p => PostXS.step a p
  | .bad, p => p.elim
theorem PostSB.step {Q : Bool → Hp → Prop} (a : Step F H F1 H1) : ∀ {r : ResS Bool}, PostSB M W io Y G F H σ Q r → PostSB M W io Y G F1 H1 σ Q r
  | .ok d δ, p => fun H' F' f s => p H' F' (a.trans f) s
  | .ex c fs, p => PostXS.step a p
  | .bad, p => p.elim
theorem seqXX {fa : DS → ResS D} {k : D → DS → ResS D} {Q : VK} (sr : SR M io Y F G H σ δ) (post : PostS M W io o Y G2 F H σ Q ((fa δ).bind k)) {Q1 : VK}
    (hk : ∀ d v H1 F1 δ1, Step F H F1 H1 → SR M io Y F1 G1 H1 σ δ1 → R M F1 H1 d v → PostS M W io o Y G2 F1 H1 σ Q (k d δ1) → Q1 v H1) : tX M W io G false fa G1 σ H Q1 := by
  refine ⟨Y, F, δ, sr, ?_⟩
  cases e : fa δ with
  | ok d δ1 => rw [e] at post; exact fun v H1 F1 f s g => hk d v H1 F1 δ1 f s g (PostS.step f post)
  | ex c fs => rw [e] at post; exact post
  | bad => rw [e] at post; exact post
theorem seqXA {fa : DS → ResS D} {k : D → DS → ResS (List D)} {Q : List V → Hp → Prop} (sr : SR M io Y F G H σ δ) (post : PostSA M W io Y G2 F H σ Q ((fa δ).bind k)) {Q1 : VK}
    (hk : ∀ d v H1 F1 δ1, Step F H F1 H1 → SR M io Y F1 G1 H1 σ δ1 → R M F1 H1 d v → PostSA M W io Y G2 F1 H1 σ Q (k d δ1) → Q1 v H1) : tX M W io G false fa G1 σ H Q1 := by
  refine ⟨Y, F, δ, sr, ?_⟩
  cases e : fa δ with
  | ok d δ1 => rw [e] at post; exact fun v H1 F1 f s g => hk d v H1 F1 δ1 f s g (PostSA.step f post)
  | ex c fs => rw [e] at post; exact post
  | bad => rw [e] at post; exact post
theorem seqXB {fa : DS → ResS D} {k : D → DS → ResS Bool} {Q : Bool → Hp → Prop} (sr : SR M io Y F G H σ δ) (post : PostSB M W io Y G2 F H σ Q ((fa δ).bind k)) {Q1 : VK}
    (hk : ∀ d v H1 F1 δ1, Step F H F1 H1 → SR M io Y F1 G1 H1 σ δ1 → R M F1 H1 d v → PostSB M W io Y G2 F1 H1 σ Q (k d δ1) → Q1 v H1) : tX M W io G false fa G1 σ H Q1 := by
  refine ⟨Y, F, δ, sr, ?_⟩
  cases e : fa δ with
  | ok d δ1 => rw [e] at post; exact fun v H1 F1 f s g => hk d v H1 F1 δ1 f s g (PostSB.step f post)
  | ex c fs => rw [e] at post; exact post
  | bad => rw [e] at post; exact post
theorem seqAX {fa : DS → ResS (List D)} {k : List D → DS → ResS D} {Q : VK} (sr : SR M io Y F G H σ δ) (post : PostS M W io o Y G2 F H σ Q ((fa δ).bind k)) {Q1 : List V → Hp → Prop}
    (hk : ∀ d v H1 F1 δ1, Step F H F1 H1 → SR M io Y F1 G1 H1 σ δ1 → Rs M F1 H1 d v → PostS M W io o Y G2 F1 H1 σ Q (k d δ1) → Q1 v H1) : tXA M W io G fa G1 σ H Q1 := by
  refine ⟨Y, F, δ, sr, ?_⟩
  cases e : fa δ with
  | ok d δ1 => rw [e] at post; exact fun v H1 F1 f s g => hk d v H1 F1 δ1 f s g (PostS.step f post)
  | ex c fs => rw [e] at post; exact post
  | bad => rw [e] at post; exact post
theorem seqAXA {fa : DS → ResS (List D)} {k : List D → DS → ResS (List D)} {Q : List V → Hp → Prop} (sr : SR M io Y F G H σ δ) (post : PostSA M W io Y G2 F H σ Q ((fa δ).bind k)) {Q1 : List V → Hp → Prop}
    (hk : ∀ d v H1 F1 δ1, Step F H F1 H1 → SR M io Y F1 G1 H1 σ δ1 → Rs M F1 H1 d v → PostSA M W io Y G2 F1 H1 σ Q (k d δ1) → Q1 v H1) : tXA M W io G fa G1 σ H Q1 := by
  refine ⟨Y, F, δ, sr, ?_⟩
  cases e : fa δ with
  | ok d δ1 => rw [e] at post; exact fun v H1 F1 f s g => hk d v H1 F1 δ1 f s g (PostSA.step f post)
  | ex c fs => rw [e] at post; exact post
  | bad => rw [e] at post; exact post
theorem seqBX {fa : DS → ResS Bool} {k : Bool → DS → ResS D} {Q : VK} (sr : SR M io Y F G H σ δ) (post : PostS M W io o Y G2 F H σ Q ((fa δ).bind k)) {Q1 : Bool → Hp → Prop}
    (hk : ∀ b H1 F1 δ1, Step F H F1 H1 → SR M io Y F1 G1 H1 σ δ1 → PostS M W io o Y G2 F1 H1 σ Q (k b δ1) → Q1 b H1) : tXB M W io G fa G1 σ H Q1 := by
  refine ⟨Y, F, δ, sr, ?_⟩
  cases e : fa δ with
  | ok d δ1 => rw [e] at post; exact fun H1 F1 f s => hk d H1 F1 δ1 f s (PostS.step f post)
  | ex c fs => rw [e] at post; exact post
  | bad => rw [e] at post; exact post
theorem seqBB2 {fa : DS → ResS Bool} {k : Bool → DS → ResS Bool} {Q : Bool → Hp → Prop} (sr : SR M io Y F G H σ δ) (post : PostSB M W io Y G2 F H σ Q ((fa δ).bind k)) {Q1 : Bool → Hp → Prop}
    (hk : ∀ b H1 F1 δ1, Step F H F1 H1 → SR M io Y F1 G1 H1 σ δ1 → PostSB M W io Y G2 F1 H1 σ Q (k b δ1) → Q1 b H1) : tXB M W io G fa G1 σ H Q1 := by
  refine ⟨Y, F, δ, sr, ?_⟩
  cases e : fa δ with
  | ok d δ1 => rw [e] at post; exact fun H1 F1 f s => hk d H1 F1 δ1 f s (PostSB.step f post)
  | ex c fs => rw [e] at post; exact post
  | bad => rw [e] at post; exact post
theorem gotS_of {F' : Fz} {H' : Hp} {d : D} {v : V} (sr : SR M io Y F G H σ δ) (fr : Fresh F H F' H') (g : Got M o F' H H' d v) : GotS M o Y F' H' G σ δ d v := by
  cases o with
  | false => exact g
  | true =>
    obtain ⟨p, e, n, nf, ow⟩ := g
    refine ⟨p, e, ?_, nf, ow, fun z => (sr.owned z).2 n⟩
    cases q : Y.H0 p with
    | none => rfl
    | some ob => exact absurd n (sr.hp.there p (by rw [q]; exact fun z => nomatch z))
end
section
variable {X : Cx} {W : WX} {io G G' G1 G2 G3 : List Nat} {e a b c : Expr} {es rest : List Expr} {o : Bool} {pos : Pos} {fa fb fc : DS → ResS D} {fs : DS → ResS (List D)} {ga gb : DS → ResS Bool}
def ofO {α : Type} (r : Option α) (δ : DS) : ResS α := match r with
  | some a => .ok a δ
  | none => .bad
def x2 (g : D → D → Option D) (fa fb : DS → ResS D) : DS → ResS D := fun δ => (fa δ).bind fun x δ1 => (fb δ1).bind fun y δ2 => ofO (g x y) δ2
theorem xOp_of {g : D → D → Option D} {σ : L2.St} {H : Hp} {Q : VK} (h : tX (mdOf X) W io G o (x2 g fa fb) G2 σ H Q) : tOp (rD (mdOf X) o g) (tX (mdOf X) W io G false fa G1) (tX (mdOf X) W io G1 false fb G2) σ H Q := by
  obtain ⟨Y, F, δ, sr, post⟩ := h
  refine seqXX (k := fun x δ1 => (fb δ1).bind fun y δ2 => ofO (g x y) δ2) sr post fun d v H1 F1 δ1 s1 sr1 r1 post1 => ?_
  refine seqXX (k := fun y δ2 => ofO (g d y) δ2) sr1 post1 fun e u H2 F2 δ2 s2 sr2 r2 post2 => ?_
  cases q : g d e with
  | none => rw [q] at post2; exact post2.elim
  | some r => rw [q] at post2; exact ⟨F2, d, e, r, sr2.hp.dom, r1.st s2, r2, q, fun v' H' F' fr gt => post2 v' H' F' fr.step (sr2.fr fr) (gotS_of sr2 fr gt)⟩
theorem dx_op {op : Operator} {g : D → D → Option D} (ho : OpR X (binaryOp op) (rD (mdOf X) o g)) (ha : DX X W io G a false fa G1) (hb : DX X W io G1 b false fb G2) : DX X W io G (.BinOp a op b pos) o (x2 g fa fb) G2 :=
  PE_imp (pe_op ho ha hb) fun _ _ _ h => xOp_of h
theorem dx_cmp {op : CmpOp} {g : D → D → Option D} (ho : OpR X (compareOp op) (rD (mdOf X) false g)) (ha : DX X W io G a false fa G1) (hb : DX X W io G1 b false fb G2) (hm : behindInMarks op b = false := by first | exact nomark _ | rfl) : DX X W io G (.Compare a [op] [b] pos) false (x2 g fa fb) G2 :=
  PE_imp (pe_cmpR ho ha hb hm) fun _ _ _ h => xOp_of h
theorem dx_ix (ha : DX X W io G a false fa G1) (hb : DX X W io G1 b false fb G2) (hs : PlainIx b := by intro _ _; rfl) : DX X W io G (.Subscript a b pos) false (x2 ixD fa fb) G2 :=
  PE_imp (pe_ix o_ix ha hb hs) fun _ _ _ h => xOp_of h
/-- tests -/
def xB (fa : DS → ResS D) : DS → ResS Bool := fun δ => (fa δ).bind fun x δ1 => match x with
  | .bl b => .ok b δ1
  | _ => .bad
theorem dxb_cmp {op : CmpOp} {g : D → D → Option D} (ho : OpR X (compareOp op) (rD (mdOf X) false g)) (ha : DX X W io G a false fa G1) (hb : DX X W io G1 b false fb G2) (hm : behindInMarks op b = false := by first | exact nomark _ | rfl) : DXB X W io G (.Compare a [op] [b] pos) (xB (x2 g fa fb)) G2 := by
  refine PT_imp (pt_cmpR ho ha hb hm) fun σ H Q h => ?_
  obtain ⟨Y, F, δ, sr, post⟩ := h
  refine xOp_of (o := false) (G1 := G1) (G2 := G2) ⟨Y, F, δ, sr, ?_⟩
  unfold xB at post
  cases q : x2 g fa fb δ with
  | bad => rw [q] at post; exact post
  | ex c fs => rw [q] at post; exact post
  | ok d δ1 =>
    rw [q] at post
    cases d with
    | bl k => exact fun v H' F' s sr' r => ⟨k, r, post H' F' s sr'⟩
    | _ => exact post.elim
/-- a test that changes nothing -/
def bZ (f : DS → Res Bool) : DS → ResS Bool := fun δ => match f δ with
  | .ok b => .ok b δ
  | .ex c fs => if fs = [] then .ex c fs else .bad
  | .bad => .bad
theorem dxb_z {f : DS → Res Bool} (h : DT X W e f) : DXB X W io G e (bZ f) G := by
  refine PT_imp h fun σ H Q h => ?_
  obtain ⟨Y, F, δ, sr, post⟩ := h
  refine ⟨_, δ, sr.froz, ?_⟩
  unfold bZ at post
  cases q : f δ with
  | bad => rw [q] at post; exact post
  | ex c fs =>
    rw [q] at post
    change PostSB _ _ _ _ _ _ _ _ _ (if fs = [] then ResS.ex c fs else .bad) at post
    split at post
    · rename_i efs
      subst efs
      intro cls dx H' F' fr x
      have f2 := fr_back (fun a z => sr.owned z) fr
      exact post cls dx H' _ f2.step (sr.hp.fr f2) x
    · exact post.elim
  | ok d =>
    rw [q] at post
    intro H' F' fr
    have f2 := fr_back (fun a z => sr.owned z) fr
    exact post H' _ f2.step (sr.fr f2)
def xbNot (f : DS → ResS Bool) : DS → ResS Bool := fun δ => (f δ).bind fun b δ1 => .ok (!b) δ1
theorem dxb_not (h : DXB X W io G a ga G1) : DXB X W io G (.UnaryOp .Not a pos) (xbNot ga) G1 := by
  refine PT_imp (pt_not h) fun σ H Q h => ?_
  obtain ⟨Y, F, δ, sr, post⟩ := h
  exact seqBB2 (k := fun b δ1 => .ok (!b) δ1) sr post fun b H1 F1 δ1 s1 sr1 post1 => post1 H1 F1 .refl sr1
def xIf (gc : DS → ResS Bool) (fa fb : DS → ResS D) : DS → ResS D := fun δ => (gc δ).bind fun x δ1 => if x then fa δ1 else fb δ1
theorem dx_if {gc : DS → ResS Bool} (hc : DXB X W io G c gc G1) (ha : DX X W io G1 a o fa G2) (hb : DX X W io G1 b o fb G2) : DX X W io G (.IfExp c a b pos) o (xIf gc fa fb) G2 := by
  refine PE_imp (pe_ifExp hc ha hb) fun σ H Q h => ?_
  obtain ⟨Y, F, δ, sr, post⟩ := h
  refine seqBX (k := fun x δ1 => if x then fa δ1 else fb δ1) sr post fun k H1 F1 δ1 s1 sr1 post1 => ?_
  cases k with
  | true => exact iteT ⟨Y, F1, δ1, sr1, post1⟩
  | false => exact iteF ⟨Y, F1, δ1, sr1, post1⟩
/-! several -/
def xNil : DS → ResS (List D) := fun δ => .ok [] δ
def xCons (f : DS → ResS D) (fs : DS → ResS (List D)) : DS → ResS (List D) := fun δ => (f δ).bind fun x δ1 => (fs δ1).bind fun xs δ2 => .ok (x :: xs) δ2
theorem dxa_nil : DXA X W io G [] xNil G := PA_imp pa_nil fun σ H Q h => by
  obtain ⟨Y, F, δ, sr, post⟩ := h
  exact post [] H F .refl sr rfl
theorem dxa_cons (ha : DX X W io G e false fa G1) (hr : DXA X W io G1 es fs G2) (hs : starEach (e :: es) X.env = (false, eval e X.env) :: starEach es X.env := by rfl) : DXA X W io G (e :: es) (xCons fa fs) G2 := PA_imp (pa_cons ha hr hs) fun σ H Q h => by
  obtain ⟨Y, F, δ, sr, post⟩ := h
  refine seqXA (k := fun x δ1 => (fs δ1).bind fun xs δ2 => .ok (x :: xs) δ2) sr post fun d v H1 F1 δ1 s1 sr1 r1 post1 => ?_
  refine seqAXA (k := fun xs δ2 => .ok (d :: xs) δ2) sr1 post1 fun ds vs H2 F2 δ2 s2 sr2 r2 post2 => ?_
  exact post2 _ H2 F2 .refl sr2 ⟨v, vs, rfl, r1.st s2, r2⟩
def xTup (fs : DS → ResS (List D)) : DS → ResS D := fun δ => (fs δ).bind fun xs δ1 => if xs.length ≤ LN then .ok (.tup xs) δ1 else .bad
def xLst (fs : DS → ResS (List D)) : DS → ResS D := fun δ => (fs δ).bind fun xs δ1 => if xs.length ≤ LN then .ok (.lst xs) δ1 else .bad
theorem dx_tup {k : Nat} (h : DXA X W io G es fs G1) : DX X W io G (.Tuple es k pos) false (xTup fs) G1 := by
  refine PE_imp (pe_tup h) fun σ H Q h => ?_
  obtain ⟨Y, F, δ, sr, post⟩ := h
  refine seqAX (k := fun xs δ1 => if xs.length ≤ LN then .ok (.tup xs) δ1 else .bad) sr post fun ds vs H1 F1 δ1 s1 sr1 r1 post1 => ?_
  split at post1
  · rename_i hl
    refine ⟨by rw [← r1.length, line_eq]; exact hl, fun p hp => ?_⟩
    have fr : Fresh F1 H1 F1 (upd H1 p (.tup vs)) := .upd hp
    exact post1 _ _ F1 fr.step (sr1.fr fr) (R.new_tup r1 hp)
  · exact post1.elim
theorem dx_lst (h : DXA X W io G es fs G1) : DX X W io G (.List es pos) true (xLst fs) G1 := by
  refine PE_imp (pe_lst h) fun σ H Q h => ?_
  obtain ⟨Y, F, δ, sr, post⟩ := h
  refine seqAX (k := fun xs δ1 => if xs.length ≤ LN then .ok (.lst xs) δ1 else .bad) sr post fun ds vs H1 F1 δ1 s1 sr1 r1 post1 => ?_
  split at post1
  · rename_i hl
    refine ⟨by rw [← r1.length, line_eq]; exact hl, fun p hp => ?_⟩
    have fr : Fresh F1 H1 F1 (upd H1 p (.lst vs)) := .upd hp
    exact post1 _ _ F1 fr.step (sr1.fr fr) (gotS_of sr1 fr (got_new sr1.hp.dom r1 hp))
  · exact post1.elim
def xCB (g : List D → Option D) (fs : DS → ResS (List D)) : DS → ResS D := fun δ => (fs δ).bind fun xs δ1 => ofO (g xs) δ1
theorem xCB_of {g : List D → Option D} {σ : L2.St} {H : Hp} {Q : VK} (h : tX (mdOf X) W io G o (xCB g fs) G1 σ H Q) : tCB (rC (mdOf X) o g) (tXA (mdOf X) W io G fs G1) σ H Q := by
  obtain ⟨Y, F, δ, sr, post⟩ := h
  refine seqAX (k := fun xs δ1 => ofO (g xs) δ1) sr post fun ds vs H1 F1 δ1 s1 sr1 r1 post1 => ?_
  cases q : g ds with
  | none => rw [q] at post1; exact post1.elim
  | some r => rw [q] at post1; exact ⟨F1, ds, r, sr1.hp.dom, r1, q, fun v' H' F' fr gt => post1 v' H' F' fr.step (sr1.fr fr) (gotS_of sr1 fr gt)⟩
theorem dx_callB {id : String} {x : Str} {p : Pos} {g : List D → Option D} (hc : CallR X (.builtin id) (rC (mdOf X) o g)) (hg : Gl X x) (hm : X.mg x = none) (hv : bootBuiltins x = some (.builtin id)) (ha : DXA X W io G (e :: es) fs G1) (hn : x ≠ "__name__" := by decide) (hdb : (x == ("__debug__" : Str)) = false := by decide)
    (he : starEach (e :: es) X.env = (false, eval e X.env) :: starEach es X.env := by rfl) (hpl : (backTo pos (starEach es X.env)).any (·.1) = false := by rfl) : DX X W io G (.Call (.Name x p) (e :: es) [] pos) o (xCB g fs) G1 :=
  PE_imp (pe_callB hc hg hm hv ha hn hdb he hpl) fun _ _ _ h => xCB_of h
theorem dx_callTy {T : String} {x : Str} {p : Pos} {g : List D → Option D} (hc : CallR X (.type T) (rC (mdOf X) o g)) (hg : Gl X x) (hm : X.mg x = none) (hv : bootBuiltins x = some (.type T)) (ha : DXA X W io G (e :: es) fs G1) (hn : x ≠ "__name__" := by decide) (hdb : (x == ("__debug__" : Str)) = false := by decide)
    (he : starEach (e :: es) X.env = (false, eval e X.env) :: starEach es X.env := by rfl) (hpl : (backTo pos (starEach es X.env)).any (·.1) = false := by rfl) : DX X W io G (.Call (.Name x p) (e :: es) [] pos) o (xCB g fs) G1 :=
  PE_imp (pe_callTy hc hg hm hv ha hn hdb he hpl) fun _ _ _ h => xCB_of h
/-- a call of a def that changes nothing -/
def xCall (den : List D → Res D) (fs : DS → ResS (List D)) : DS → ResS D := fun δ => (fs δ).bind fun xs δ1 => match den xs with
  | .ok d => .ok d δ1
  | .ex c fs => .ex c fs
  | .bad => .bad
theorem dx_call {k : Nat} {f : Addr} {fd : FuncData} {ps : List Str} {x : Str} {p : Pos} {den : List D → Res D} (tk : Takes X W) (Gf : FnOk X.prog X.w X.K X.mg X.base (L2.CX X.prog X.w) k f fd ps (spP (mdOf X) o den)) (hr : Room k X.A) (hg : Gl X x) (hm : X.mg x = some (.ref f))
    (hk : PySem.W.keepIn X.K (.ref f) = true) (hb : Binds X.K fd ps []) (ha : DXA X W io G (e :: es) fs G1) (hdb : (x == ("__debug__" : Str)) = false := by decide)
    (he : starEach (e :: es) X.env = (false, eval e X.env) :: starEach es X.env := by rfl) (hpl : (backTo pos (starEach es X.env)).any (·.1) = false := by rfl) :
    DX X W io G (.Call (.Name x p) (e :: es) [] pos) o (xCall den fs) G1 := by
  refine PE_imp (pe_callS Gf hr hg hm hk hb (fun σ => passAt tk σ) ha hdb he hpl) fun σ H Q h => ?_
  obtain ⟨Y, F, δ, sr, post⟩ := h
  refine seqAX (k := fun xs δ1 => match den xs with
  | .ok d => .ok d δ1
  | .ex c fs => .ex c fs
  | .bad => .bad) sr post fun ds vs H1 F1 δ1 s1 sr1 r1 post1 => ?_
  refine ⟨F1, ds, sr1.hp.dom, r1, ?_⟩
  cases q : den ds with
  | ok d => rw [q] at post1; exact fun v H' F' fr gt => post1 v H' F' fr.step (sr1.fr fr) (gotS_of sr1 fr gt)
  | ex c fs => rw [q] at post1; exact fun cls dx H' F' fr x => post1 cls dx H' F' fr.step (sr1.hp.fr fr) x
  | bad => rw [q] at post1; exact post1
end
end Dn

set_option Elab.async false
set_option linter.all false
set_option maxRecDepth 100000
set_option autoImplicit false
set_option maxHeartbeats 4000000
namespace Dn
open PySem PySem.Spec L2
open PyProof.Rows hiding St

section
variable {M : Md} {io : List Nat} {Y : FC} {F F' F1 : Fz} {G : List Nat} {H H' H1 : Hp} {σ : L2.St} {δ : DS}
theorem set_get {α : Type} {l : List α} {i j : Nat} {x y : α} (h : (l.set i x)[j]? = some y) : (i = j ∧ y = x ∧ j < l.length) ∨ (i ≠ j ∧ l[j]? = some y) := by
  by_cases q : i = j
  · subst q
    by_cases hl : i < l.length
    · rw [List.getElem?_set_self hl] at h; cases h; exact .inl ⟨rfl, rfl, hl⟩
    · rw [List.getElem?_eq_none (by rw [List.length_set]; omega)] at h; cases h
  · rw [List.getElem?_set_ne q] at h; exact .inr ⟨q, h⟩
theorem mem_filt {G : List Nat} {i j : Nat} : (j ∈ G.filter fun k => k != i) ↔ (j ∈ G ∧ j ≠ i) := by simp
theorem SR.setSh (s : SR M io Y F G H σ δ) {i : Nat} {d : D} {v : V} (r : R M F H d v) (ni : i ∉ io) : SR M io Y F (G.filter fun k => k != i) H (σ.set i (some v)) (δ.set i (some d)) := by
  have ne : ∀ p ∈ Y.io, p.1 ≠ i := fun p hp e => ni (by rw [← s.iol, ← e]; exact List.mem_map_of_mem hp)
  refine ⟨s.hp, by rw [List.length_set, List.length_set]; exact s.len, fun j e h n => ?_, fun j e h m => ?_, fun j k a d e h1 h2 e1 e2 q1 q2 => ?_, s.iol, fun p hp => ?_⟩
  · rcases set_get h with ⟨rfl, q, hl⟩ | ⟨q, h⟩
    · cases q; exact ⟨v, List.getElem?_set_self (s.len ▸ hl), r⟩
    · rw [List.getElem?_set_ne q]
      exact s.sh j e h fun z => n (mem_filt.mpr ⟨z, Ne.symm q⟩)
  · obtain ⟨m1, m2⟩ := mem_filt.mp m
    rw [List.getElem?_set_ne (Ne.symm m2)] at h ⊢
    exact s.ow j e h m1
  · obtain ⟨m1, m2⟩ := mem_filt.mp h1
    obtain ⟨m3, m4⟩ := mem_filt.mp h2
    rw [List.getElem?_set_ne (Ne.symm m2)] at e1 q1
    rw [List.getElem?_set_ne (Ne.symm m4)] at e2 q2
    exact s.dj j k a d e m1 m3 e1 e2 q1 q2
  · obtain ⟨h1, h2, h3⟩ := s.ios p hp
    rw [List.getElem?_set_ne (Ne.symm (ne p hp)), List.getElem?_set_ne (Ne.symm (ne p hp))]
    exact ⟨mem_filt.mpr ⟨h1, ne p hp⟩, h2, h3⟩
theorem SR.setOw (s : SR M io Y F G H σ δ) {i : Nat} {d : D} {a : Addr} (n0 : Y.H0 a = none) (nf : ¬ F a) (ow : OwnAt M F H a d) (no : ¬ Owned G σ δ a) (ni : i ∉ io) :
    SR M io Y F (i :: G.filter fun k => k != i) H (σ.set i (some (.ref a))) (δ.set i (some d)) := by
  have ne : ∀ p ∈ Y.io, p.1 ≠ i := fun p hp e => ni (by rw [← s.iol, ← e]; exact List.mem_map_of_mem hp)
  have out : ∀ j, j ∈ G.filter (fun k => k != i) → ∀ e, δ[j]? = some (some e) → σ[j]? = some (some (.ref a)) → False := fun j m e h q => no ⟨j, e, (mem_filt.mp m).1, h, q⟩
  refine ⟨s.hp, by rw [List.length_set, List.length_set]; exact s.len, fun j e h n => ?_, fun j e h m => ?_, fun j k b d e h1 h2 e1 e2 q1 q2 => ?_, s.iol, fun p hp => ?_⟩
  · rcases set_get h with ⟨rfl, q, hl⟩ | ⟨q, h⟩
    · exact absurd List.mem_cons_self n
    · rw [List.getElem?_set_ne q]
      exact s.sh j e h fun z => n (List.mem_cons_of_mem _ (mem_filt.mpr ⟨z, Ne.symm q⟩))
  · rcases set_get h with ⟨rfl, q, hl⟩ | ⟨q, h⟩
    · cases q
      exact ⟨a, List.getElem?_set_self (s.len ▸ hl), nf, ow, .inl n0⟩
    · rcases List.mem_cons.mp m with rfl | m
      · exact absurd rfl q
      · rw [List.getElem?_set_ne q]
        exact s.ow j e h (mem_filt.mp m).1
  · rcases set_get e1 with ⟨r1, _, hl1⟩ | ⟨r1, e1⟩
    · rcases set_get e2 with ⟨r2, _, hl2⟩ | ⟨r2, e2⟩
      · rw [← r1, ← r2]
      · subst r1
        rw [List.getElem?_set_self (s.len ▸ hl1)] at q1; cases q1
        rw [List.getElem?_set_ne r2] at q2
        rcases List.mem_cons.mp h2 with r | h2
        · exact absurd r.symm r2
        · exact (out k h2 e e2 q2).elim
    · rcases set_get e2 with ⟨r2, _, hl2⟩ | ⟨r2, e2⟩
      · subst r2
        rw [List.getElem?_set_self (s.len ▸ hl2)] at q2; cases q2
        rw [List.getElem?_set_ne r1] at q1
        rcases List.mem_cons.mp h1 with r | h1
        · exact absurd r.symm r1
        · exact (out j h1 d e1 q1).elim
      · rw [List.getElem?_set_ne r1] at q1
        rw [List.getElem?_set_ne r2] at q2
        have m1 : j ∈ G := by
          rcases List.mem_cons.mp h1 with r | h1
          · exact absurd r.symm r1
          · exact (mem_filt.mp h1).1
        have m2 : k ∈ G := by
          rcases List.mem_cons.mp h2 with r | h2
          · exact absurd r.symm r2
          · exact (mem_filt.mp h2).1
        exact s.dj j k b d e m1 m2 e1 e2 q1 q2
  · obtain ⟨h1, h2, h3⟩ := s.ios p hp
    rw [List.getElem?_set_ne (Ne.symm (ne p hp)), List.getElem?_set_ne (Ne.symm (ne p hp))]
    exact ⟨List.mem_cons_of_mem _ (mem_filt.mpr ⟨h1, ne p hp⟩), h2, h3⟩
/-- one's own object at the slot i is changed -/
theorem SR.mut (s : SR M io Y F G H σ δ) {i : Nat} {d d' : D} {a : Addr} {o' : HO} (m : i ∈ G) (e : δ[i]? = some (some d)) (q : σ[i]? = some (some (.ref a))) (ow : OwnAt M F (upd H a o') a d') :
    SR M io Y F G (upd H a o') σ (δ.set i (some d')) ∧ Step F H F (upd H a o') := by
  obtain ⟨b, h1, nf, ow0, h4⟩ := s.ow i d e m
  rw [q] at h1; cases h1
  obtain ⟨o, ho, mu⟩ := ow0.there
  have mn : Mono F H (upd H a o') := Mono.updN nf ho mu
  have hl : i < δ.length := (List.getElem?_eq_some_iff.mp e).1
  have thr : ∀ x, H x ≠ none → upd H a o' x ≠ none := fun x z => by
    by_cases y : x = a
    · subst y; rw [upd_same]; exact fun z => nomatch z
    · rw [upd_ne y]; exact z
  refine ⟨⟨⟨s.hp.le, fun x z => (s.hp.new x z).imp id fun w => ⟨w.1, thr x w.2⟩, fun x ob z w => ?_, fun x z => thr x (s.hp.there x z), fun x z => thr x (s.hp.dom x z)⟩, by rw [List.length_set]; exact s.len, fun j c h n => ?_, fun j c h m2 => ?_, fun j k b d1 e1 h1 h2 e1' e2' q1 q2 => ?_, s.iol, fun p hp => ?_⟩, ⟨fun _ z => z, mn⟩⟩
  · have ne : x ≠ a := fun y => by
      subst y
      rcases h4 with h4 | h4
      · rw [h4] at z; cases z
      · exact w _ h4 rfl
    rw [upd_ne ne]; exact s.hp.same x ob z w
  · rcases set_get h with ⟨rfl, _, _⟩ | ⟨_, h⟩
    · exact absurd m n
    · obtain ⟨v, k1, k2⟩ := s.sh j c h n
      exact ⟨v, k1, k2.mono mn fun _ z => z⟩
  · rcases set_get h with ⟨rfl, z, _⟩ | ⟨ne, h⟩
    · cases z; exact ⟨a, q, nf, ow, h4⟩
    · obtain ⟨b, k1, k2, k3, k4⟩ := s.ow j c h m2
      have nb : b ≠ a := fun z => by subst z; exact ne (s.dj i j b d c m m2 e h q k1)
      exact ⟨b, k1, k2, k3.mono mn (fun _ z => z) (upd_ne nb), k4⟩
  · have f : ∀ {j : Nat} {d1 : D}, (δ.set i (some d'))[j]? = some (some d1) → ∃ d2, δ[j]? = some (some d2) := fun {j d1} h => by
      rcases set_get h with ⟨rfl, _, _⟩ | ⟨_, h⟩
      · exact ⟨d, e⟩
      · exact ⟨d1, h⟩
    obtain ⟨x1, y1⟩ := f e1'
    obtain ⟨x2, y2⟩ := f e2'
    exact s.dj j k b x1 x2 h1 h2 y1 y2 q1 q2
  · obtain ⟨k1, k2, dd, k3⟩ := s.ios p hp
    refine ⟨k1, k2, ?_⟩
    by_cases z : i = p.1
    · exact ⟨d', by rw [← z]; exact List.getElem?_set_self hl⟩
    · exact ⟨dd, by rw [List.getElem?_set_ne z]; exact k3⟩
/-- one's own at the slot i is frozen -/
theorem SR.freeze (s : SR M io Y F G H σ δ) {i : Nat} {d : D} (m : i ∈ G) (e : δ[i]? = some (some d)) (ni : i ∉ io) : ∃ a F2, σ[i]? = some (some (.ref a)) ∧ R M F2 H d (.ref a) ∧ SR M io Y F2 (G.filter fun k => k != i) H σ δ ∧ Step F H F2 H := by
  obtain ⟨a, q, nf, ow, h4⟩ := s.ow i d e m
  have h0 : Y.H0 a = none := h4.elim id fun z => absurd (by rw [← s.iol]; exact List.mem_map_of_mem (f := (·.1)) z) ni
  obtain ⟨o, ho, mu⟩ := ow.there
  have ne : ∀ p ∈ Y.io, p.1 ≠ i := fun p hp e => ni (by rw [← s.iol, ← e]; exact List.mem_map_of_mem hp)
  have up : ∀ {d v}, R M F H d v → R M (F.add a) H d v := fun h => h.mono (.refl F H) fun _ z => .inl z
  have hH : H a ≠ none := by rw [ho]; exact fun z => nomatch z
  refine ⟨a, F.add a, q, OwnAt.frozen (ow.mono (.refl F H) (fun _ z => .inl z) rfl) (.inr rfl), ⟨⟨fun x z => .inl (s.hp.le x z), fun x z => z.elim (s.hp.new x) fun z => .inr (z ▸ ⟨h0, hH⟩), s.hp.same, s.hp.there, fun x z => z.elim (s.hp.dom x) fun z => z ▸ hH⟩, s.len, fun j c h n => ?_, fun j c h m2 => ?_, fun j k b d1 e1 h1 h2 => s.dj j k b d1 e1 (mem_filt.mp h1).1 (mem_filt.mp h2).1, s.iol, fun p hp => ?_⟩, ⟨fun _ z => .inl z, .refl F H⟩⟩
  · by_cases z : j = i
    · subst z
      rw [e] at h; cases h
      exact ⟨.ref a, q, OwnAt.frozen (ow.mono (.refl F H) (fun _ z => .inl z) rfl) (.inr rfl)⟩
    · obtain ⟨v, k1, k2⟩ := s.sh j c h fun w => n (mem_filt.mpr ⟨w, z⟩)
      exact ⟨v, k1, up k2⟩
  · obtain ⟨m3, m4⟩ := mem_filt.mp m2
    obtain ⟨b, k1, k2, k3, k4⟩ := s.ow j c h m3
    have nb : b ≠ a := fun z => by subst z; exact m4 (s.dj j i b c d m3 m h e k1 q)
    exact ⟨b, k1, fun z => z.elim k2 nb, k3.mono (.refl F H) (fun _ z => .inl z) rfl, k4⟩
  · obtain ⟨h1, h2, h3⟩ := s.ios p hp
    exact ⟨mem_filt.mpr ⟨h1, ne p hp⟩, h2, h3⟩
end
end Dn

set_option Elab.async false
set_option linter.all false
set_option maxRecDepth 100000
set_option autoImplicit false
set_option maxHeartbeats 4000000
namespace Dn
open PySem PySem.Spec L2
open PyProof.Rows hiding St

/-! ### statements -/
inductive Out where
  | nx (δ : DS) | rt (d : D) (δ : DS) | bk (δ : DS) | ct (δ : DS) | ex (c : Str) (fs : List D) | bad
def GotR (M : Md) (ro : Bool) (Y : FC) (F' : Fz) (H' : Hp) (d : D) (v : V) : Prop := if ro = true then ∃ a, v = .ref a ∧ Y.H0 a = none ∧ ¬ F' a ∧ OwnAt M F' H' a d else R M F' H' d v
def IoEnd (M : Md) (Y : FC) (F : Fz) (H : Hp) (δ : DS) : Prop := ∀ p ∈ Y.io, ∃ h, δ[p.1]? = some (some h) ∧ OwnAt M F H p.2 h
def PostT (M : Md) (W : WX) (io : List Nat) (ro : Bool) (Y : FC) (Gn Gl : List Nat) (F : Fz) (H : Hp) (Dd : Ends) : Out → Prop
  | .nx δ => ∀ σ' H' F', Step F H F' H' → SR M io Y F' Gn H' σ' δ → Dd.nx σ' H'
  | .rt d δ => ∀ v H' F', Step F H F' H' → Hpo Y F' H' → IoEnd M Y F' H' δ → GotR M ro Y F' H' d v → Dd.rt v H'
  | .bk δ => ∀ σ' H' F', Step F H F' H' → SR M io Y F' Gl H' σ' δ → Dd.bk σ' H'
  | .ct δ => ∀ σ' H' F', Step F H F' H' → SR M io Y F' Gl H' σ' δ → Dd.ct σ' H'
  | .ex c fs => ∀ cls dx σ' H' F', Step F H F' H' → Hpo Y F' H' → ExR M F' H' c fs cls dx → W cls dx σ' H'
  | .bad => False
def tT (M : Md) (W : WX) (io : List Nat) (ro : Bool) (G : List Nat) (f : DS → Out) (Gn Gl : List Nat) : TS := fun Dd σ H => ∃ Y F δ, SR M io Y F G H σ δ ∧ PostT M W io ro Y Gn Gl F H Dd (f δ)
def DSt (X : Cx) (W : WX) (io : List Nat) (ro : Bool) (G : List Nat) (st : Stmt) (f : DS → Out) (Gn Gl : List Nat) : Prop := PS X st (tT (mdOf X) W io ro G f Gn Gl)
def DSs (X : Cx) (W : WX) (io : List Nat) (ro : Bool) (G : List Nat) (st : List Stmt) (f : DS → Out) (Gn Gl : List Nat) : Prop := PSs X st (tT (mdOf X) W io ro G f Gn Gl)
section
variable {M : Md} {W : WX} {io : List Nat} {ro o : Bool} {Y : FC} {G Gn Gl G1 G2 : List Nat} {F F1 : Fz} {H H1 : Hp} {σ : L2.St} {δ : DS} {Dd : Ends}
theorem PostT.step (a : Step F H F1 H1) : ∀ {r : Out}, PostT M W io ro Y Gn Gl F H Dd r → PostT M W io ro Y Gn Gl F1 H1 Dd r
  | .nx δ, p => fun σ' H' F' s q => p σ' H' F' (a.trans s) q
  | .rt d δ, p => fun v H' F' s q => p v H' F' (a.trans s) q
  | .bk δ, p => fun σ' H' F' s q => p σ' H' F' (a.trans s) q
  | .ct δ, p => fun σ' H' F' s q => p σ' H' F' (a.trans s) q
  | .ex c fs, p => fun cls dx σ' H' F' s q => p cls dx σ' H' F' (a.trans s) q
  | .bad, p => p.elim
theorem SR.ioEnd (s : SR M io Y F G H σ δ) : IoEnd M Y F H δ := fun p hp => by
  obtain ⟨h1, h2, d, h3⟩ := s.ios p hp
  obtain ⟨a, k1, k2, k3, k4⟩ := s.ow p.1 d h3 h1
  rw [h2] at k1; cases k1
  exact ⟨d, h3, k3⟩
def seqT (r : ResS D) (k : D → DS → Out) : Out := match r with
  | .ok d δ => k d δ
  | .ex c fs => .ex c fs
  | .bad => .bad
def seqTB (r : ResS Bool) (k : Bool → DS → Out) : Out := match r with
  | .ok d δ => k d δ
  | .ex c fs => .ex c fs
  | .bad => .bad
def seqTL (r : ResS (List D)) (k : List D → DS → Out) : Out := match r with
  | .ok d δ => k d δ
  | .ex c fs => .ex c fs
  | .bad => .bad
theorem seqXT {fa : DS → ResS D} {k : D → DS → Out} (sr : SR M io Y F G H σ δ) (post : PostT M W io ro Y Gn Gl F H Dd (seqT (fa δ) k)) {Q1 : VK}
    (hk : ∀ d v H1 F1 δ1, Step F H F1 H1 → SR M io Y F1 G1 H1 σ δ1 → GotS M o Y F1 H1 G1 σ δ1 d v → PostT M W io ro Y Gn Gl F1 H1 Dd (k d δ1) → Q1 v H1) : tX M W io G o fa G1 σ H Q1 := by
  refine ⟨Y, F, δ, sr, ?_⟩
  cases e : fa δ with
  | ok d δ1 => rw [e] at post; exact fun v H1 F1 f s g => hk d v H1 F1 δ1 f s g (PostT.step f post)
  | ex c fs => rw [e] at post; exact fun cls dx H' F' s hp x => post cls dx σ H' F' s hp x
  | bad => rw [e] at post; exact post
theorem seqBT {fa : DS → ResS Bool} {k : Bool → DS → Out} (sr : SR M io Y F G H σ δ) (post : PostT M W io ro Y Gn Gl F H Dd (seqTB (fa δ) k)) {Q1 : Bool → Hp → Prop}
    (hk : ∀ d H1 F1 δ1, Step F H F1 H1 → SR M io Y F1 G1 H1 σ δ1 → PostT M W io ro Y Gn Gl F1 H1 Dd (k d δ1) → Q1 d H1) : tXB M W io G fa G1 σ H Q1 := by
  refine ⟨Y, F, δ, sr, ?_⟩
  cases e : fa δ with
  | ok d δ1 => rw [e] at post; exact fun H1 F1 f s => hk d H1 F1 δ1 f s (PostT.step f post)
  | ex c fs => rw [e] at post; exact fun cls dx H' F' s hp x => post cls dx σ H' F' s hp x
  | bad => rw [e] at post; exact post
theorem seqAT {fa : DS → ResS (List D)} {k : List D → DS → Out} (sr : SR M io Y F G H σ δ) (post : PostT M W io ro Y Gn Gl F H Dd (seqTL (fa δ) k)) {Q1 : List V → Hp → Prop}
    (hk : ∀ d v H1 F1 δ1, Step F H F1 H1 → SR M io Y F1 G1 H1 σ δ1 → Rs M F1 H1 d v → PostT M W io ro Y Gn Gl F1 H1 Dd (k d δ1) → Q1 v H1) : tXA M W io G fa G1 σ H Q1 := by
  refine ⟨Y, F, δ, sr, ?_⟩
  cases e : fa δ with
  | ok d δ1 => rw [e] at post; exact fun v H1 F1 f s g => hk d v H1 F1 δ1 f s g (PostT.step f post)
  | ex c fs => rw [e] at post; exact fun cls dx H' F' s hp x => post cls dx σ H' F' s hp x
  | bad => rw [e] at post; exact post
end
section
variable {X : Cx} {W : WX} {io G G1 G2 Gn Gl : List Nat} {e a b : Expr} {o ro : Bool} {pos p2 : Pos} {st : Stmt} {rest body other : List Stmt} {fa fb : DS → ResS D} {f g h : DS → Out}
/-! blocks -/
def sNil : DS → Out := fun δ => .nx δ
def sSeq (f g : DS → Out) : DS → Out := fun δ => match f δ with
  | .nx δ1 => g δ1
  | r => r
theorem dss_nil : DSs X W io ro G [] sNil G Gl := PSs_imp pss_nil fun Dd σ H h => by
  obtain ⟨Y, F, δ, sr, post⟩ := h
  exact post σ H F .refl sr
theorem dss_cons (h1 : DSt X W io ro G st f G1 Gl) (h2 : DSs X W io ro G1 rest g Gn Gl) : DSs X W io ro G (st :: rest) (sSeq f g) Gn Gl := PSs_imp (pss_cons h1 h2) fun Dd σ H h => by
  obtain ⟨Y, F, δ, sr, post⟩ := h
  refine ⟨Y, F, δ, sr, ?_⟩
  unfold sSeq at post
  cases e : f δ with
  | nx δ1 => rw [e] at post; exact fun σ' H' F' s q => ⟨Y, F', δ1, q, PostT.step s post⟩
  | rt d δ1 => rw [e] at post; exact post
  | bk δ1 => rw [e] at post; exact post
  | ct δ1 => rw [e] at post; exact post
  | ex c fs => rw [e] at post; exact post
  | bad => rw [e] at post; exact post
/-- not reached -/
theorem ds_never (st : Stmt) : DSt X W io ro G st (fun _ => .bad) Gn Gl := ⟨fun _ _ _ _ _ _ ⟨_, _, _, _, h⟩ => h.elim⟩
theorem dss_never (st : List Stmt) : DSs X W io ro G st (fun _ => .bad) Gn Gl := ⟨fun _ _ _ _ _ _ ⟨_, _, _, _, h⟩ => h.elim⟩
theorem ds_pass : DSt X W io ro G (.Pass pos) sNil G Gl := PS_imp ps_pass fun Dd σ H h => by
  obtain ⟨Y, F, δ, sr, post⟩ := h
  exact post σ H F .refl sr
def sBreak : DS → Out := fun δ => .bk δ
def sCont : DS → Out := fun δ => .ct δ
theorem ds_break : DSt X W io ro Gl (.Break pos) sBreak Gn Gl := PS_imp ps_break fun Dd σ H h => by
  obtain ⟨Y, F, δ, sr, post⟩ := h
  exact post σ H F .refl sr
theorem ds_cont : DSt X W io ro Gl (.Continue pos) sCont Gn Gl := PS_imp ps_continue fun Dd σ H h => by
  obtain ⟨Y, F, δ, sr, post⟩ := h
  exact post σ H F .refl sr
/-! x = e -/
def sSet (i : Nat) (f : DS → ResS D) : DS → Out := fun δ => seqT (f δ) fun d δ1 => .nx (δ1.set i (some d))
theorem setT {te : TE} {i : Nat} (h : PS X st (tAsg te (gName i))) (hi : ∀ σ H Q, tX (mdOf X) W io G false fa G1 σ H Q → te σ H Q) (ni : i ∉ io := by decide) : DSt X W io ro G st (sSet i fa) (G1.filter fun k => k != i) Gl := PS_imp h fun Dd σ H h => by
  obtain ⟨Y, F, δ, sr, post⟩ := h
  refine hi _ _ _ (seqXT (k := fun d δ1 => .nx (δ1.set i (some d))) sr post fun d v H1 F1 δ1 s1 sr1 g1 post1 => ?_)
  exact post1 _ H1 F1 .refl (sr1.setSh g1 ni)
theorem ownT {te : TE} {i : Nat} (h : PS X st (tAsg te (gName i))) (hi : ∀ σ H Q, tX (mdOf X) W io G true fa G1 σ H Q → te σ H Q) (ni : i ∉ io := by decide) : DSt X W io ro G st (sSet i fa) (i :: G1.filter fun k => k != i) Gl := PS_imp h fun Dd σ H h => by
  obtain ⟨Y, F, δ, sr, post⟩ := h
  refine hi _ _ _ (seqXT (k := fun d δ1 => .nx (δ1.set i (some d))) sr post fun d v H1 F1 δ1 s1 sr1 g1 post1 => ?_)
  obtain ⟨p, rfl, n0, nf, ow, no⟩ := g1
  exact post1 _ H1 F1 .refl (sr1.setOw n0 nf ow no ni)
theorem ds_set {i : Nat} {x : Str} {pos' : Pos} (hN : X.N.Nodup) (hi : X.N[i]? = some x) (hx : Loc X.env.scope x) (he : DX X W io G e false fa G1) (ni : i ∉ io := by decide) (hs : swapsWith e (some (.Name x pos')) pos.line X.env = pure false := by rfl) (hf : X.fn x = true ∨ X.env.scope.names.lookup x = some .local := by first | exact .inl rfl | exact .inr rfl | assumption) :
    DSt X W io ro G (.Assign [.Name x pos'] e pos) (sSet i fa) (G1.filter fun k => k != i) Gl := setT (ps_set hN hi hx he hs hf) (fun _ _ _ h => h) ni
theorem ds_own {i : Nat} {x : Str} {pos' : Pos} (hN : X.N.Nodup) (hi : X.N[i]? = some x) (hx : Loc X.env.scope x) (he : DX X W io G e true fa G1) (ni : i ∉ io := by decide) (hs : swapsWith e (some (.Name x pos')) pos.line X.env = pure false := by rfl) (hf : X.fn x = true ∨ X.env.scope.names.lookup x = some .local := by first | exact .inl rfl | exact .inr rfl | assumption) :
    DSt X W io ro G (.Assign [.Name x pos'] e pos) (sSet i fa) (i :: G1.filter fun k => k != i) Gl := ownT (ps_set hN hi hx he hs hf) (fun _ _ _ h => h) ni
/-! return -/
def sRet (f : DS → ResS D) : DS → Out := fun δ => seqT (f δ) fun d δ1 => .rt d δ1
theorem ds_ret (he : DX X W io G e ro fa G1) : DSt X W io ro G (.Return (some e) pos) (sRet fa) Gn Gl := PS_imp (ps_ret he) fun Dd σ H h => by
  obtain ⟨Y, F, δ, sr, post⟩ := h
  refine seqXT (k := fun d δ1 => .rt d δ1) sr post fun d v H1 F1 δ1 s1 sr1 g1 post1 => ?_
  refine post1 v H1 F1 .refl sr1.hp sr1.ioEnd ?_
  cases ro with
  | false => exact g1
  | true => obtain ⟨p, e, n0, nf, ow, no⟩ := g1; exact ⟨p, e, n0, nf, ow⟩
def sRetN : DS → Out := fun δ => .rt .non δ
theorem ds_retN : DSt X W io false G (.Return none pos) sRetN Gn Gl := PS_imp ps_retN fun Dd σ H h => by
  obtain ⟨Y, F, δ, sr, post⟩ := h
  exact post .non H F .refl sr.hp sr.ioEnd rfl
/-- one's own object, returned -/
def sRetOwn (i : Nat) : DS → Out := fun δ => match δ[i]? with
  | some (some d) => .rt d δ
  | _ => .bad
theorem ds_retOwn {i : Nat} {x : Str} {p1 : Pos} (m : i ∈ G := by decide) (ni : i ∉ io := by decide) (hN : X.N[i]? = some x := by rfl) (hv : Vis X.env.scope x := by first | exact Or.inl rfl | exact Or.inr (Or.inl rfl) | exact Or.inr (Or.inr rfl)) (hd : (x == ("__debug__" : Str)) = false := by decide)
    (hcd : (x == ("__classdict__" : Str)) = false := by decide) : DSt X W io true G (.Return (some (.Name x p1)) pos) (sRetOwn i) Gn Gl := PS_imp (ps_ret (pv i hN hv hd hcd)) fun Dd σ H h => by
  obtain ⟨Y, F, δ, sr, post⟩ := h
  unfold sRetOwn at post
  split at post
  · rename_i d e
    obtain ⟨a, h1, h2, h3, h4⟩ := sr.ow i d e m
    refine ⟨.ref a, h1, post _ H F .refl sr.hp sr.ioEnd ⟨a, rfl, ?_, h2, h3⟩⟩
    rcases h4 with h4 | h4
    · exact h4
    · exact absurd (by rw [← sr.iol]; exact List.mem_map_of_mem (f := (·.1)) h4) ni
  · exact post.elim
/-- one's own object read: it is frozen -/
def xFrz (i : Nat) : DS → ResS D := fun δ => match δ[i]? with
  | some (some d) => .ok d δ
  | _ => .bad
theorem dx_frz {i : Nat} {x : Str} (m : i ∈ G := by decide) (ni : i ∉ io := by decide) (hN : X.N[i]? = some x := by rfl) (hv : Vis X.env.scope x := by first | exact Or.inl rfl | exact Or.inr (Or.inl rfl) | exact Or.inr (Or.inr rfl)) (hd : (x == ("__debug__" : Str)) = false := by decide)
    (hcd : (x == ("__classdict__" : Str)) = false := by decide) : DX X W io G (.Name x pos) false (xFrz i) (G.filter fun k => k != i) := PE_imp (pv i hN hv hd hcd) fun σ H Q h => by
  obtain ⟨Y, F, δ, sr, post⟩ := h
  unfold xFrz at post
  split at post
  · rename_i d e
    obtain ⟨a, F2, h1, h2, h3, h4⟩ := sr.freeze m e ni
    exact ⟨.ref a, h1, post _ H F2 h4 h3 h2⟩
  · exact post.elim
/-! an expression alone -/
def sExpr (f : DS → ResS D) : DS → Out := fun δ => seqT (f δ) fun _ δ1 => .nx δ1
theorem ds_expr (he : DX X W io G e o fa G1) (hs : swapsWith e none pos.line X.env = pure false := by rfl) : DSt X W io ro G (.Expr e pos) (sExpr fa) G1 Gl := PS_imp (ps_expr he hs) fun Dd σ H h => by
  obtain ⟨Y, F, δ, sr, post⟩ := h
  exact seqXT (k := fun _ δ1 => .nx δ1) sr post fun d v H1 F1 δ1 s1 sr1 g1 post1 => post1 σ H1 F1 .refl sr1
/-! if -/
def sIf (c : DS → ResS Bool) (f g : DS → Out) : DS → Out := fun δ => seqTB (c δ) fun b δ1 => if b then f δ1 else g δ1
theorem ds_if {c : Expr} {gc : DS → ResS Bool} (hc : DXB X W io G c gc G1) (h1 : DSs X W io ro G1 body f Gn Gl) (h2 : DSs X W io ro G1 other g Gn Gl) : DSt X W io ro G (.If c body other pos) (sIf gc f g) Gn Gl := PS_imp (ps_if hc h1 h2) fun Dd σ H h => by
  obtain ⟨Y, F, δ, sr, post⟩ := h
  refine seqBT (k := fun b δ1 => if b then f δ1 else g δ1) sr post fun b H1 F1 δ1 s1 sr1 post1 => ?_
  cases b with
  | true => exact iteT ⟨Y, F1, δ1, sr1, post1⟩
  | false => exact iteF ⟨Y, F1, δ1, sr1, post1⟩
/-- fewer own objects are enough -/
theorem SR.drop {M : Md} {Y : FC} {F : Fz} {H : Hp} {σ : L2.St} {δ : DS} (s : SR M io Y F G H σ δ) (h : ∀ j ∈ G, j ∈ Gn ∨ j ∉ io) (hs : ∀ j ∈ Gn, j ∈ G) : ∃ F2, SR M io Y F2 Gn H σ δ ∧ Step F H F2 H := by
  -- all that is not kept is frozen
  have key : ∀ (l : List Nat), (∀ j ∈ l, j ∉ io) → ∀ (G : List Nat) (F : Fz), SR M io Y F G H σ δ → ∃ F2, SR M io Y F2 (G.filter fun k => !l.contains k) H σ δ ∧ Step F H F2 H := by
    intro l
    induction l with
    | nil =>
      intro _ G F s
      have e : (G.filter fun k => !([] : List Nat).contains k) = G := List.filter_eq_self.mpr fun k _ => rfl
      rw [e]
      exact ⟨F, s, .refl⟩
    | cons i l ih =>
      intro hl G F s
      obtain ⟨F2, s2, st2⟩ := ih (fun j hj => hl j (List.mem_cons_of_mem _ hj)) G F s
      have e : (G.filter fun k => !(i :: l).contains k) = (G.filter fun k => !l.contains k).filter fun k => k != i := by
        rw [List.filter_filter]
        refine List.filter_congr fun k _ => ?_
        simp only [List.contains_cons, Bool.not_or, bne]
      rw [e]
      by_cases m : i ∈ G.filter fun k => !l.contains k
      · by_cases c : ∃ d, δ[i]? = some (some d)
        · obtain ⟨d, c⟩ := c
          obtain ⟨a, F3, h1, h2, h3, h4⟩ := s2.freeze m c (hl i List.mem_cons_self)
          exact ⟨F3, h3, st2.trans h4⟩
        · refine ⟨F2, ⟨s2.hp, s2.len, fun j d ej n => ?_, fun j d ej m2 => s2.ow j d ej (mem_filt.mp m2).1, fun j k a d e h1 h2 => s2.dj j k a d e (mem_filt.mp h1).1 (mem_filt.mp h2).1, s2.iol, fun p hp => ?_⟩, st2⟩
          · refine s2.sh j d ej fun z => n (mem_filt.mpr ⟨z, fun q => c ⟨d, q ▸ ej⟩⟩)
          · obtain ⟨k1, k2, k3⟩ := s2.ios p hp
            exact ⟨mem_filt.mpr ⟨k1, fun z => c (z ▸ k3)⟩, k2, k3⟩
      · have e2 : (G.filter fun k => !l.contains k).filter (fun k => k != i) = G.filter fun k => !l.contains k := List.filter_eq_self.mpr fun k hk => by
          simp only [bne_iff_ne]; intro z; exact m (z ▸ hk)
        rw [e2]; exact ⟨F2, s2, st2⟩
  obtain ⟨F2, s2, st2⟩ := key (G.filter fun k => !Gn.contains k) (fun j hj => by
    obtain ⟨m1, m2⟩ := List.mem_filter.mp hj
    rcases h j m1 with z | z
    · simp [z] at m2
    · exact z) G F s
  refine ⟨F2, ?_, st2⟩
  have mem : ∀ j, j ∈ (G.filter fun k => !(G.filter fun k => !Gn.contains k).contains k) ↔ j ∈ Gn := fun j => by
    simp only [List.mem_filter, List.contains_iff_mem, Bool.not_eq_true', decide_eq_false_iff_not]
    constructor
    · intro ⟨h1, h2⟩
      by_cases z : j ∈ Gn
      · exact z
      · exfalso
        have : (G.filter fun k => !Gn.contains k).contains j = true := by
          rw [List.contains_iff_mem, List.mem_filter]
          exact ⟨h1, by simp [z]⟩
        rw [this] at h2; cases h2
    · intro z
      refine ⟨hs j z, ?_⟩
      cases q : (G.filter fun k => !Gn.contains k).contains j with
      | false => rfl
      | true =>
        rw [List.contains_iff_mem, List.mem_filter] at q
        have := q.2
        simp [z] at this
  exact ⟨s2.hp, s2.len, fun j d e n => s2.sh j d e fun z => n ((mem j).mp z), fun j d e m => s2.ow j d e ((mem j).mpr m), fun j k a d e h1 h2 => s2.dj j k a d e ((mem _).mpr h1) ((mem _).mpr h2), s2.iol, fun p hp => let ⟨k1, k2⟩ := s2.ios p hp; ⟨(mem _).mp k1, k2⟩⟩
/-- a block's end with fewer own objects -/
theorem dss_drop (h : DSs X W io ro G body f Gn Gl) (h1 : ∀ j ∈ Gn, j ∈ G2 ∨ j ∉ io := by decide) (h2 : ∀ j ∈ G2, j ∈ Gn := by decide) : DSs X W io ro G body f G2 Gl := PSs_imp h fun Dd σ H h => by
  obtain ⟨Y, F, δ, sr, post⟩ := h
  refine ⟨Y, F, δ, sr, ?_⟩
  cases e : f δ with
  | nx δ1 =>
    rw [e] at post
    intro σ' H' F' s q
    obtain ⟨F2, q2, s2⟩ := q.drop h1 h2
    exact post σ' H' F2 (s.trans s2) q2
  | rt d δ1 => rw [e] at post; exact post
  | bk δ1 => rw [e] at post; exact post
  | ct δ1 => rw [e] at post; exact post
  | ex c fs => rw [e] at post; exact post
  | bad => rw [e] at post; exact post
end
end Dn

set_option Elab.async false
set_option linter.all false
set_option maxRecDepth 100000
set_option autoImplicit false
set_option maxHeartbeats 4000000
namespace Dn
open PySem PySem.Spec L2
open PyProof.Rows hiding St

def PostSI (M : Md) (W : WX) (io : List Nat) (Y : FC) (G : List Nat) (F : Fz) (H : Hp) (σ : L2.St) (Q : It → Hp → Prop) : ResS (List D) → Prop
  | .ok ds δ => ∀ J H' F', Step F H F' H' → SR M io Y F' G H' σ δ → Iter M F' H' J ds → Q J H'
  | .ex c fs => PostXS M W Y F H σ c fs
  | .bad => False
def tXI (M : Md) (W : WX) (io G : List Nat) (f : DS → ResS (List D)) (G' : List Nat) : TI := fun σ H Q => ∃ Y F δ, SR M io Y F G H σ δ ∧ PostSI M W io Y G' F H σ Q (f δ)
def DXI (X : Cx) (W : WX) (io G : List Nat) (tg iter : Expr) (f : DS → ResS (List D)) (G' : List Nat) : Prop := PI X tg iter (tXI (mdOf X) W io G f G')
section
variable {M : Md} {W : WX} {io : List Nat} {o : Bool} {Y : FC} {G G1 G2 : List Nat} {F F1 : Fz} {H H1 : Hp} {σ : L2.St} {δ : DS}
theorem PostSI.step {Q : It → Hp → Prop} (a : Step F H F1 H1) : ∀ {r : ResS (List D)}, PostSI M W io Y G F H σ Q r → PostSI M W io Y G F1 H1 σ Q r
  | .ok d δ, p => fun v H' F' f s g => p v H' F' (a.trans f) s g
  | .ex c fs, p => PostXS.step a p
  | .bad, p => p.elim
theorem seqXI {fa : DS → ResS D} {k : D → DS → ResS (List D)} {Q : It → Hp → Prop} (sr : SR M io Y F G H σ δ) (post : PostSI M W io Y G2 F H σ Q ((fa δ).bind k)) {Q1 : VK}
    (hk : ∀ d v H1 F1 δ1, Step F H F1 H1 → SR M io Y F1 G1 H1 σ δ1 → R M F1 H1 d v → PostSI M W io Y G2 F1 H1 σ Q (k d δ1) → Q1 v H1) : tX M W io G false fa G1 σ H Q1 := by
  refine ⟨Y, F, δ, sr, ?_⟩
  cases e : fa δ with
  | ok d δ1 => rw [e] at post; exact fun v H1 F1 f s g => hk d v H1 F1 δ1 f s g (PostSI.step f post)
  | ex c fs => rw [e] at post; exact post
  | bad => rw [e] at post; exact post
theorem seqAXI {fa : DS → ResS (List D)} {k : List D → DS → ResS (List D)} {Q : It → Hp → Prop} (sr : SR M io Y F G H σ δ) (post : PostSI M W io Y G2 F H σ Q ((fa δ).bind k)) {Q1 : List V → Hp → Prop}
    (hk : ∀ d v H1 F1 δ1, Step F H F1 H1 → SR M io Y F1 G1 H1 σ δ1 → Rs M F1 H1 d v → PostSI M W io Y G2 F1 H1 σ Q (k d δ1) → Q1 v H1) : tXA M W io G fa G1 σ H Q1 := by
  refine ⟨Y, F, δ, sr, ?_⟩
  cases e : fa δ with
  | ok d δ1 => rw [e] at post; exact fun v H1 F1 f s g => hk d v H1 F1 δ1 f s g (PostSI.step f post)
  | ex c fs => rw [e] at post; exact post
  | bad => rw [e] at post; exact post
end
section
variable {X : Cx} {W : WX} {io G G' G1 G2 G3 : List Nat} {e a b c tg : Expr} {es rest : List Expr} {o : Bool} {pos p tpos : Pos} {elts : List Expr} {kk : Nat} {fa fb fc : DS → ResS D} {fs : DS → ResS (List D)} {ga gb : DS → ResS Bool}
def xWk (f : DS → ResS D) : DS → ResS (List D) := fun δ => (f δ).bind fun x δ1 => ofO (walkD x) δ1
def xR (g : List D → Option (List D)) (fs : DS → ResS (List D)) : DS → ResS (List D) := fun δ => (fs δ).bind fun xs δ1 => ofO (g xs) δ1
theorem dxi_val (he : DX X W io G e false fa G1) : DXI X W io G tg e (xWk fa) G1 := by
  refine PI_imp (pi_val he) fun σ H Q h => ?_
  obtain ⟨Y, F, δ, sr, post⟩ := h
  refine seqXI (k := fun x δ1 => ofO (walkD x) δ1) sr post fun d v H1 F1 δ1 s1 sr1 r1 post1 => ?_
  cases q : walkD d with
  | none => rw [q] at post1; exact post1.elim
  | some es =>
    rw [q] at post1
    obtain ⟨src, e, rs⟩ := src_of r1 q
    exact ⟨src, e, (rs F1 H1 (fun _ h => h) (.refl F1 H1)).1, post1 _ H1 F1 .refl sr1 (iter_val rs)⟩
theorem dxi_range1 (hg : Gl X "range") (hm : X.mg "range" = none) (ha : DXA X W io G [a] fs G1) (hs : starEach [a] X.env = [(false, eval a X.env)] := by rfl) : DXI X W io G tg (.Call (.Name "range" p) [a] [] pos) (xR range1D fs) G1 := by
  refine PI_imp (pi_range1 hg hm ha hs) fun σ H Q h => ?_
  obtain ⟨Y, F, δ, sr, post⟩ := h
  refine seqAXI (k := fun xs δ1 => ofO (range1D xs) δ1) sr post fun ds vs H1 F1 δ1 s1 sr1 r1 post1 => ?_
  cases q : range1D ds with
  | none => rw [q] at post1; exact post1.elim
  | some es =>
    rw [q] at post1
    unfold range1D at q
    split at q
    · rename_i j
      split at q
      · rename_i hj
        cases q
        obtain ⟨v, rfl, r⟩ := r1.one
        cases (show v = V.int j from r)
        have hj := of_decide_eq_true hj
        exact ⟨j, rfl, hj.1, hj.2, post1 _ H1 F1 .refl sr1 (iter_rng 0 _)⟩
      · cases q
    · cases q
theorem dxi_range2 (hg : Gl X "range") (hm : X.mg "range" = none) (ha : DXA X W io G [a, b] fs G1) (hs : starEach [a, b] X.env = [(false, eval a X.env), (false, eval b X.env)] := by rfl) (hs2 : starEach [b] X.env = [(false, eval b X.env)] := by rfl) :
    DXI X W io G tg (.Call (.Name "range" p) [a, b] [] pos) (xR range2D fs) G1 := by
  refine PI_imp (pi_range2 hg hm ha hs hs2) fun σ H Q h => ?_
  obtain ⟨Y, F, δ, sr, post⟩ := h
  refine seqAXI (k := fun xs δ1 => ofO (range2D xs) δ1) sr post fun ds vs H1 F1 δ1 s1 sr1 r1 post1 => ?_
  cases q : range2D ds with
  | none => rw [q] at post1; exact post1.elim
  | some es =>
    rw [q] at post1
    unfold range2D at q
    split at q
    · rename_i i j
      split at q
      · rename_i hj
        cases q
        obtain ⟨v, u, rfl, r, r'⟩ := r1.two
        cases (show v = V.int i from r)
        cases (show u = V.int j from r')
        have h1 := of_decide_eq_true hj.1
        have h2 := of_decide_eq_true hj.2
        exact ⟨i, j, rfl, ⟨h1.1, h1.2, h2.1, h2.2⟩, post1 _ H1 F1 .refl sr1 (iter_rng i _)⟩
      · cases q
    · cases q
theorem dxi_enum (hg : Gl X "enumerate") (hm : X.mg "enumerate" = none) (ha : DXA X W io G [e] fs G1) (hs : starEach [e] X.env = [(false, eval e X.env)] := by rfl) : DXI X W io G (.Tuple elts kk tpos) (.Call (.Name "enumerate" p) [e] [] pos) (xR enum1D fs) G1 := by
  refine PI_imp (pi_enumS hg hm ha hs) fun σ H Q h => ?_
  obtain ⟨Y, F, δ, sr, post⟩ := h
  refine seqAXI (k := fun xs δ1 => ofO (enum1D xs) δ1) sr post fun ds vs H1 F1 δ1 s1 sr1 r1 post1 => ?_
  cases q : enum1D ds with
  | none => rw [q] at post1; exact post1.elim
  | some es =>
    rw [q] at post1
    unfold enum1D at q
    split at q
    · rename_i d
      obtain ⟨xs, q1, rfl⟩ := Option.map_eq_some_iff.mp q
      obtain ⟨v, rfl, r⟩ := r1.one
      obtain ⟨src, rfl, rs⟩ := src_of r q1
      exact ⟨src, rfl, (rs F1 H1 (fun _ z => z) (.refl F1 H1)).1, post1 _ H1 F1 .refl sr1 (iter_enum 0 rs)⟩
    · cases q
theorem dxi_enum2 (hg : Gl X "enumerate") (hm : X.mg "enumerate" = none) (ha : DXA X W io G [e, a] fs G1) (hs : starEach [e, a] X.env = (false, eval e X.env) :: starEach [a] X.env := by rfl) (hpl : (backTo pos (starEach [a] X.env)).any (·.1) = false := by rfl) :
    DXI X W io G (.Tuple elts kk tpos) (.Call (.Name "enumerate" p) [e, a] [] pos) (xR enum2D fs) G1 := by
  refine PI_imp (pi_enumK hg hm ha hs hpl) fun σ H Q h => ?_
  obtain ⟨Y, F, δ, sr, post⟩ := h
  refine seqAXI (k := fun xs δ1 => ofO (enum2D xs) δ1) sr post fun ds vs H1 F1 δ1 s1 sr1 r1 post1 => ?_
  cases q : enum2D ds with
  | none => rw [q] at post1; exact post1.elim
  | some es =>
    rw [q] at post1
    unfold enum2D at q
    split at q
    · rename_i d k
      split at q
      · rename_i hk
        obtain ⟨xs, q1, rfl⟩ := Option.map_eq_some_iff.mp q
        obtain ⟨v, u, rfl, r, r'⟩ := r1.two
        cases (show u = V.int k from r')
        obtain ⟨src, rfl, rs⟩ := src_of r q1
        exact ⟨src, k, rfl, (rs F1 H1 (fun _ z => z) (.refl F1 H1)).1, of_decide_eq_true hk, post1 _ H1 F1 .refl sr1 (iter_enum k rs)⟩
      · cases q
    · cases q
theorem dxi_zip (hg : Gl X "zip") (hm : X.mg "zip" = none) (ha : DXA X W io G [a, b] fs G1) (hs : starEach [a, b] X.env = (false, eval a X.env) :: starEach [b] X.env := by rfl) (hpl : (backTo pos (starEach [b] X.env)).any (·.1) = false := by rfl) :
    DXI X W io G (.Tuple elts kk tpos) (.Call (.Name "zip" p) [a, b] [] pos) (xR zipD fs) G1 := by
  refine PI_imp (pi_zipS hg hm ha hs hpl) fun σ H Q h => ?_
  obtain ⟨Y, F, δ, sr, post⟩ := h
  refine seqAXI (k := fun xs δ1 => ofO (zipD xs) δ1) sr post fun ds vs H1 F1 δ1 s1 sr1 r1 post1 => ?_
  cases q : zipD ds with
  | none => rw [q] at post1; exact post1.elim
  | some es =>
    rw [q] at post1
    unfold zipD at q
    split at q
    · rename_i d d'
      cases q1 : walkD d with
      | none => rw [q1] at q; cases q
      | some xs =>
        rw [q1] at q
        obtain ⟨ys, q2, rfl⟩ := Option.map_eq_some_iff.mp q
        obtain ⟨v, u, rfl, r, r'⟩ := r1.two
        obtain ⟨src, rfl, rs⟩ := src_of r q1
        obtain ⟨src', rfl, rs'⟩ := src_of r' q2
        exact ⟨src, src', rfl, (rs F1 H1 (fun _ z => z) (.refl F1 H1)).1, (rs' F1 H1 (fun _ z => z) (.refl F1 H1)).1, post1 _ H1 F1 .refl sr1 (iter_zip rs rs')⟩
    · cases q
/-! an owned result, given away; fewer own objects -/
theorem dx_freeze (h : DX X W io G e true fa G1) : DX X W io G e false fa G1 := by
  refine PE_imp h fun σ H Q h => ?_
  obtain ⟨Y, F, δ, sr, post⟩ := h
  refine ⟨Y, F, δ, sr, ?_⟩
  cases q : fa δ with
  | bad => rw [q] at post; exact post
  | ex c fs => rw [q] at post; exact post
  | ok d δ1 =>
    rw [q] at post
    intro v H' F' s sr' g
    obtain ⟨p, e, n0, nf, ow, no⟩ := g
    obtain ⟨ob, ho, mu⟩ := ow.there
    have hH : H' p ≠ none := by rw [ho]; exact fun z => nomatch z
    have up : ∀ {d v}, R (mdOf X) F' H' d v → R (mdOf X) (F'.add p) H' d v := fun h => h.mono (.refl F' H') fun _ z => .inl z
    refine post v H' (F'.add p) (s.trans ⟨fun _ z => .inl z, .refl F' H'⟩) ?_ ?_
    · refine ⟨⟨fun x z => .inl (sr'.hp.le x z), fun x z => z.elim (sr'.hp.new x) fun z => .inr (z ▸ ⟨n0, hH⟩), sr'.hp.same, sr'.hp.there, fun x z => z.elim (sr'.hp.dom x) fun z => z ▸ hH⟩, sr'.len, fun j c h n => ?_, fun j c h m => ?_, sr'.dj, sr'.iol, sr'.ios⟩
      · obtain ⟨v, k1, k2⟩ := sr'.sh j c h n
        exact ⟨v, k1, up k2⟩
      · obtain ⟨b, k1, k2, k3, k4⟩ := sr'.ow j c h m
        exact ⟨b, k1, fun z => z.elim k2 fun z => no (z ▸ ⟨j, c, m, h, k1⟩), k3.mono (.refl F' H') (fun _ z => .inl z) rfl, k4⟩
    · rw [e]; exact OwnAt.frozen (ow.mono (.refl F' H') (fun _ z => .inl z) rfl) (.inr rfl)
theorem dx_drop (h : DX X W io G e false fa G1) (h1 : ∀ j ∈ G1, j ∈ G2 ∨ j ∉ io := by decide) (h2 : ∀ j ∈ G2, j ∈ G1 := by decide) : DX X W io G e false fa G2 := by
  refine PE_imp h fun σ H Q h => ?_
  obtain ⟨Y, F, δ, sr, post⟩ := h
  refine ⟨Y, F, δ, sr, ?_⟩
  cases q : fa δ with
  | bad => rw [q] at post; exact post
  | ex c fs => rw [q] at post; exact post
  | ok d δ1 =>
    rw [q] at post
    intro v H' F' s sr' g
    obtain ⟨F2, q2, s2⟩ := sr'.drop h1 h2
    exact post v H' F2 (s.trans s2) q2 (R.st s2 g)
theorem dxb_drop (h : DXB X W io G e ga G1) (h1 : ∀ j ∈ G1, j ∈ G2 ∨ j ∉ io := by decide) (h2 : ∀ j ∈ G2, j ∈ G1 := by decide) : DXB X W io G e ga G2 := by
  refine PT_imp h fun σ H Q h => ?_
  obtain ⟨Y, F, δ, sr, post⟩ := h
  refine ⟨Y, F, δ, sr, ?_⟩
  cases q : ga δ with
  | bad => rw [q] at post; exact post
  | ex c fs => rw [q] at post; exact post
  | ok d δ1 =>
    rw [q] at post
    intro H' F' s sr'
    obtain ⟨F2, q2, s2⟩ := sr'.drop h1 h2
    exact post H' F2 (s.trans s2) q2
end
section
variable {M : Md} {io : List Nat} {Y : FC} {F F' F1 : Fz} {G : List Nat} {H H' H1 : Hp}
theorem SR.putAll : ∀ {as : List (Nat × D)} {bs : List (Nat × V)} {σ : L2.St} {δ : DS}, SR M io Y F G H σ δ → Asg M F H as bs → (∀ i ∈ as.map (·.1), i ∉ G ∧ i ∉ io) → SR M io Y F G H (Dn.putAll σ bs) (Dn.putAll δ as)
  | [], [], _, _, p, _, _ => p
  | a :: as, b :: bs, σ, δ, p, .cons h t, hn => by
    obtain ⟨i, d⟩ := a
    obtain ⟨j, v⟩ := b
    obtain ⟨e, r⟩ := h
    cases (show i = j from e)
    have h0 := hn i (by rw [List.map_cons]; exact List.mem_cons_self)
    have s := p.setSh (i := i) r h0.2
    have eG : (G.filter fun k => k != i) = G := List.filter_eq_self.mpr fun k hk => by simp only [bne_iff_ne]; intro z; exact h0.1 (z ▸ hk)
    rw [eG] at s
    show SR M io Y F G H (Dn.putAll (σ.set i (some v)) bs) (Dn.putAll (δ.set i (some d)) as)
    exact SR.putAll s t fun k hk => hn k (by rw [List.map_cons]; exact List.mem_cons_of_mem _ hk)
end
section
variable {X : Cx} {W : WX} {io G G1 G2 Gn Gl : List Nat} {e a b tg iter : Expr} {o ro : Bool} {pos p2 : Pos} {st : Stmt} {rest body other : List Stmt} {fa : DS → ResS D} {f g h : DS → Out}
/-! for -/
def forL (t : D → Option (List (Nat × D))) (body : DS → Out) : List D → DS → Out
  | [], δ => .nx δ
  | d :: ds, δ => match t d with
    | none => .bad
    | some as => match body (putAll δ as) with
      | .nx δ1 => forL t body ds δ1
      | .ct δ1 => forL t body ds δ1
      | .bk δ1 => .nx δ1
      | r => r
def sFor (fi : DS → ResS (List D)) (t : D → Option (List (Nat × D))) (body : DS → Out) : DS → Out := fun δ => seqTL (fi δ) fun ds δ1 => forL t body ds δ1
theorem ds_for {is : List Nat} {fi : DS → ResS (List D)} {t : D → Option (List (Nat × D))} (hp : PassesOwn (model X.prog X.w) X.A X.env X.xe) (hc : X.calm = true) (hi : DXI X W io G tg iter fi G1) (hg : DG X tg is t) (hb : DSs X W io ro G2 body f G2 G2)
    (hn : ∀ i ∈ is, i ∉ G2 ∧ i ∉ io := by decide) (h1 : ∀ j ∈ G1, j ∈ G2 ∨ j ∉ io := by decide) (h2 : ∀ j ∈ G2, j ∈ G1 := by decide) (hs : ∀ x, foldedSetIterable iter X.env x = pure x := by intro _; rfl) :
    DSt X W io ro G (.For tg iter body [] pos) (sFor fi t f) G2 Gl := PS_imp (ps_for hp hc hi hg.pg hb hs) fun Dd σ H h => by
  obtain ⟨Y, F, δ, sr, post⟩ := h
  refine ⟨Y, F, δ, sr, ?_⟩
  unfold sFor at post
  cases ei : fi δ with
  | ex c fs => rw [ei] at post; exact fun cls dx H' F' s hp x => post cls dx σ H' F' s hp x
  | bad => rw [ei] at post; exact post.elim
  | ok ds δ1 =>
    rw [ei] at post
    intro J H1 F1 s1 sr1 hit
    obtain ⟨F2, sr2, s2⟩ := sr1.drop h1 h2
    refine ⟨fun i m σ' Hc => m = ds.length - i ∧ i ≤ ds.length ∧ ∃ Fc δc, Step F1 H1 Fc Hc ∧ SR (mdOf X) io Y Fc G2 Hc σ' δc ∧ PostT (mdOf X) W io ro Y G2 Gl Fc Hc Dd (forL t f (ds.drop i) δc), ⟨ds.length, rfl, Nat.zero_le _, F2, δ1, s2, sr2, PostT.step (s1.trans s2) post⟩, ?_⟩
    rintro i m σc Hc ⟨rfl, hi, Fc, δc, sc, src, pc⟩
    obtain ⟨goes, stops⟩ := hit Fc Hc sc.le sc.mono
    by_cases hlt : i < ds.length
    · refine .inr ?_
      have hd : ds[i]? = some ds[i] := List.getElem?_eq_getElem hlt
      obtain ⟨go, yld⟩ := goes i _ hd
      rw [List.drop_eq_getElem_cons hlt] at pc
      unfold forL at pc
      refine ⟨go, fun σ' H' => ∃ Fc δc, Step F1 H1 Fc H' ∧ SR (mdOf X) io Y Fc G2 H' σ' δc ∧ PostT (mdOf X) W io ro Y G2 Gl Fc H' Dd (forL t f (ds.drop (i + 1)) δc), fun σ' H' hN => ⟨ds.length - (i + 1), by omega, rfl, hlt, hN⟩, fun x H3 hy => ?_⟩
      obtain ⟨f3, rx⟩ := yld x H3 hy
      cases et : t ds[i] with
      | none => rw [et] at pc; exact pc.elim
      | some as =>
        rw [et] at pc
        refine ⟨Fc, ds[i], as, rx, et, fun bs hbs => ?_⟩
        have sr3 := (src.fr f3).putAll hbs (by rw [hg.sl _ _ et]; exact hn)
        refine ⟨Y, Fc, _, sr3, ?_⟩
        have sN := sc.trans f3.step
        dsimp only at pc
        have pc := PostT.step f3.step pc
        revert pc
        cases f (putAll δc as) with
        | nx δ1 => exact fun pc σ' H' F' s q => ⟨F', δ1, sN.trans s, q, PostT.step s pc⟩
        | ct δ1 => exact fun pc σ' H' F' s q => ⟨F', δ1, sN.trans s, q, PostT.step s pc⟩
        | bk δ1 => exact fun pc => pc
        | rt d δ1 => exact fun pc => pc
        | ex c fs => exact fun pc => pc
        | bad => exact fun pc => pc
    · have hi : i = ds.length := by omega
      subst hi
      rw [List.drop_length] at pc
      exact .inl ⟨stops, pc σc Hc Fc .refl src⟩
/-! while -/
def whileL (c : DS → ResS Bool) (body : DS → Out) : Nat → DS → Out
  | 0, _ => .bad
  | n + 1, δ => seqTB (c δ) fun b δ1 => if b then (match body δ1 with
    | .nx δ2 => whileL c body n δ2
    | .ct δ2 => whileL c body n δ2
    | .bk δ2 => .nx δ2
    | r => r) else .nx δ1
open Classical in
/-- the loop, with as many turns as it needs -/
noncomputable def sWhile (c : DS → ResS Bool) (body : DS → Out) : DS → Out := fun δ => if h : ∃ n, whileL c body n δ ≠ .bad then whileL c body h.choose δ else .bad
theorem whileL_more {c : DS → ResS Bool} {body : DS → Out} : ∀ {n m : Nat} {δ : DS}, n ≤ m → whileL c body n δ ≠ .bad → whileL c body m δ = whileL c body n δ
  | 0, _, _, _, h => absurd rfl h
  | n + 1, 0, _, h, _ => absurd h (by omega)
  | n + 1, m + 1, δ, hm, h => by
    unfold whileL at h ⊢
    cases ec : c δ with
    | bad => rfl
    | ex c fs => rfl
    | ok b δ1 =>
      rw [ec] at h
      cases b with
      | false => rfl
      | true =>
        dsimp only [seqTB] at h ⊢
        rw [if_pos rfl] at h
        rw [if_pos rfl, if_pos rfl]
        cases eb : body δ1 with
        | nx δ2 => rw [eb] at h; exact whileL_more (by omega) h
        | ct δ2 => rw [eb] at h; exact whileL_more (by omega) h
        | bk δ2 => rfl
        | rt d δ2 => rfl
        | ex c fs => rfl
        | bad => rfl
theorem sWhile_eq {c : DS → ResS Bool} {body : DS → Out} {n : Nat} {δ : DS} {r : Out} (h : whileL c body n δ = r) (hr : r ≠ .bad) : sWhile c body δ = r := by
  subst h
  have hx : ∃ n, whileL c body n δ ≠ .bad := ⟨n, hr⟩
  unfold sWhile
  rw [dif_pos hx]
  rcases Nat.le_total n hx.choose with q | q
  · exact whileL_more q hr
  · exact (whileL_more q hx.choose_spec).symm
theorem ds_while {c : Expr} {gc : DS → ResS Bool} (hp : PassesOwn (model X.prog X.w) X.A X.env X.xe) (hc : DXB X W io G c gc G) (hb : DSs X W io ro G body f G G) : DSt X W io ro G (.While c body [] pos) (sWhile gc f) G Gl := PS_imp (ps_while hp hc hb) fun Dd σ H h => by
  obtain ⟨Y, F, δ, sr, post⟩ := h
  unfold sWhile at post
  split at post
  case isFalse => exact post.elim
  rename_i hx
  generalize hx.choose = n0 at post
  clear hx
  refine ⟨fun m σ' Hc => ∃ Fc δc, SR (mdOf X) io Y Fc G Hc σ' δc ∧ PostT (mdOf X) W io ro Y G Gl Fc Hc Dd (whileL gc f m δc), ⟨n0, F, δ, sr, post⟩, ?_⟩
  rintro m σc Hc ⟨Fc, δc, src, pc⟩
  cases m with
  | zero => exact pc.elim
  | succ n =>
    unfold whileL at pc
    refine seqBT (G1 := G) src pc fun b H1 F1 δ1 s1 sr1 post1 => ?_
    cases b with
    | false => exact iteF (post1 _ H1 F1 .refl sr1)
    | true =>
      refine iteT ⟨fun σ' H' => ∃ Fc δc, SR (mdOf X) io Y Fc G H' σ' δc ∧ PostT (mdOf X) W io ro Y G Gl Fc H' Dd (whileL gc f n δc), fun σ' H' h => ⟨n, by omega, h⟩, Y, F1, δ1, sr1, ?_⟩
      rw [if_pos rfl] at post1
      revert post1
      cases f δ1 with
      | nx δ2 => exact fun pc σ' H' F' s q => ⟨F', δ2, q, PostT.step s pc⟩
      | ct δ2 => exact fun pc σ' H' F' s q => ⟨F', δ2, q, PostT.step s pc⟩
      | bk δ2 => exact fun pc => pc
      | rt d δ2 => exact fun pc => pc
      | ex c fs => exact fun pc => pc
      | bad => exact fun pc => pc
/-- break and continue with more own objects than the loop keeps -/
theorem ds_breakD (h1 : ∀ j ∈ G, j ∈ Gl ∨ j ∉ io := by decide) (h2 : ∀ j ∈ Gl, j ∈ G := by decide) : DSt X W io ro G (.Break pos) sBreak Gn Gl := PS_imp ps_break fun Dd σ H h => by
  obtain ⟨Y, F, δ, sr, post⟩ := h
  obtain ⟨F2, q2, s2⟩ := sr.drop h1 h2
  exact post σ H F2 s2 q2
theorem ds_contD (h1 : ∀ j ∈ G, j ∈ Gl ∨ j ∉ io := by decide) (h2 : ∀ j ∈ Gl, j ∈ G := by decide) : DSt X W io ro G (.Continue pos) sCont Gn Gl := PS_imp ps_continue fun Dd σ H h => by
  obtain ⟨Y, F, δ, sr, post⟩ := h
  obtain ⟨F2, q2, s2⟩ := sr.drop h1 h2
  exact post σ H F2 s2 q2
end
end Dn

set_option Elab.async false
set_option linter.all false
set_option maxRecDepth 100000
set_option autoImplicit false
set_option maxHeartbeats 4000000
namespace Dn
open PySem PySem.Spec L2
open PyProof.Rows hiding St

section
variable {X : Cx} {W : WX} {io G G1 G2 Gn Gl : List Nat} {e a b tg iter elt : Expr} {es ifs : List Expr} {o ro : Bool} {pos p p2 apos : Pos} {st : Stmt} {fa fb : DS → ResS D} {fs : DS → ResS (List D)} {f : DS → Res D}
/-! the readings of dx_m and dx_z -/
theorem xM_of {σ : L2.St} {H : Hp} {Q : VK} (h : tX (mdOf X) W io G o (xM G f) G σ H Q) : tP (mdOf X) W o f σ H Q := by
  obtain ⟨Y, F, δ, sr, post⟩ := h
  refine ⟨F, wipeD δ G, sr.mask, ?_⟩
  unfold xM at post
  cases q : f (wipeD δ G) with
  | bad => rw [q] at post; exact post
  | ex c fs => rw [q] at post; exact fun cls dx H' F' fr x => post cls dx H' F' fr.step (sr.hp.fr fr) x
  | ok d =>
    rw [q] at post
    intro v H' F' fr g
    exact post v H' F' fr.step (sr.fr fr) (gotS_of sr fr g)
/-- an owned list of clean values, from all that is there -/
def xZo (f : DS → Res D) : DS → ResS D := fun δ => match f δ with
  | .ok (.lst ds) => if cleans ds = true then .ok (.lst ds) δ else .bad
  | _ => .bad
theorem xZo_of {σ : L2.St} {H : Hp} {Q : VK} (h : tX (mdOf X) W io G true (xZo f) G σ H Q) : tP (mdOf X) W true f σ H Q := by
  obtain ⟨Y, F, δ, sr, post⟩ := h
  refine ⟨_, δ, sr.froz, ?_⟩
  unfold xZo at post
  cases q : f δ with
  | bad => rw [q] at post; exact post
  | ex c fs => rw [q] at post; exact post.elim
  | ok d =>
    rw [q] at post
    cases d with
    | lst ds =>
      change PostS _ _ _ _ _ _ _ _ _ _ (if cleans ds = true then ResS.ok (.lst ds) δ else .bad) at post
      split at post
      · rename_i c
        intro v H' F' fr g
        have f2 := fr_back (fun a z => sr.owned z) fr
        obtain ⟨p, e, n, nf, us, hp, rs⟩ := g
        refine post v H' _ f2.step (sr.fr f2) ⟨p, e, ?_, fun z => nf z.1, ⟨us, hp, Rs.cl c rs⟩, fun z => (sr.owned z).2 n⟩
        cases q : Y.H0 p with
        | none => rfl
        | some ob => exact absurd n (sr.hp.there p (by rw [q]; exact fun z => nomatch z))
      · exact post.elim
    | _ => exact post.elim
theorem dx_zo (h : DP X W e true f) : DX X W io G e true (xZo f) G := PE_imp h fun _ _ _ h => xZo_of h
/-! x = [ .. for .. in ..] -/
section
variable {scope : Scope} {own : List (Str × Nat)} {is : List Nat} {t : D → Option (List (Nat × D))} {fi : DS → Res (List D)} {ft : DS → Res Bool} {fe : DS → Res D} {i : Nat} {x : Str} {py : Pos} {fx : DS → ResS D}
theorem ds_lc (hx : ∀ σ H Q, tX (mdOf X) W io G true fx G σ H Q → tP (mdOf X) W true (pLc (own.map (·.2)) fi t ft fe) σ H Q) (hc : X.calm = true) (hN : X.N.Nodup) (hy : X.N[i]? = some x) (hyl : X.env.scope.names.lookup x = some .local) (hsw : swapsWith (.ListComp elt [⟨tg, iter, ifs, 0⟩] scope p) (some (.Name x py)) pos.line X.env = pure true)
    (hi : DI X W tg iter fi) (ok : BlkOk X.N X.env.scope scope own)
    (hg : ∀ (s : Shared) (H : Hp) (C : Addr) (cl : List (Str × Addr)) (fp : List Addr), DG (X.blk s H scope (compEnvC scope cl C X.env) fp) tg is t) (ht : ∀ (s : Shared) (H : Hp) (C : Addr) (cl : List (Str × Addr)) (fp : List Addr), DTs (X.blk s H scope (compEnvC scope cl C X.env) fp) W0 ifs ft)
    (he : ∀ (s : Shared) (H : Hp) (C : Addr) (cl : List (Str × Addr)) (fp : List Addr), DP (X.blk s H scope (compEnvC scope cl C X.env) fp) W0 elt false fe) (ni : i ∉ io := by decide) (his : ∀ i ∈ is, i ∈ own.map (·.2) := by decide) (hs : ∀ x, foldedSetIterable iter X.env x = pure x := by intro _; rfl) :
    DSt X W io ro G (.Assign [.Name x py] (.ListComp elt [⟨tg, iter, ifs, 0⟩] scope p) pos) (sSet i fx) (i :: G.filter fun k => k != i) Gl :=
  ⟨fun pins s σ H D I h => (ownT (io := io) (G := G) (G1 := G) (W := W) (fa := fx) (ro := ro) (Gl := Gl) (ps_setLc (wi := tPI (mdOf X) W fi) (g := tPG (mdOf X) t) (tt := tPB (mdOf X) W0 ft) (te := tP (mdOf X) W0 false fe) hc hN hy hyl hsw hi ok (fun s H C cl fp => (hg s H C cl fp).pg) ht he hs)
    (fun σ' H' Q h => tLc_of his (hg s H 0 [] []).sl (hx σ' H' Q h)) ni).run pins s σ H D I h⟩
end
/-! a, b = x, y -/
def sPar (i j : Nat) (fs : DS → ResS (List D)) : DS → Out := fun δ => seqTL (fs δ) fun ds δ1 => match ds with
  | [d, e] => .nx ((δ1.set i (some d)).set j (some e))
  | _ => .bad
theorem ds_par {i j : Nat} {x y : Str} {px py pt pt2 : Pos} {kt k2 : Nat} (hc : X.calm = true) (hN : X.N.Nodup) (hi : X.N[i]? = some x) (hj : X.N[j]? = some y) (hij : i ≠ j)
    (hx : X.env.scope.names.lookup x = some .local) (hy : X.env.scope.names.lookup y = some .local) (ha : DXA X W io G [a, b] fs G1)
    (hw : swappedStores [.Tuple [.Name x px, .Name y py] kt pt] (.Tuple [a, b] k2 pt2) X.env = pure (some [x, y])) (ni : i ∉ io := by decide) (nj : j ∉ io := by decide)
    (hs : swapsWithSole [.Tuple [.Name x px, .Name y py] kt pt] (.Tuple [a, b] k2 pt2) pos.line X.env = pure false := by rfl) :
    DSt X W io ro G (.Assign [.Tuple [.Name x px, .Name y py] kt pt] (.Tuple [a, b] k2 pt2) pos) (sPar i j fs) ((G1.filter fun k => k != i).filter fun k => k != j) Gl := PS_imp (ps_par hc hN hi hj hij hx hy ha hw hs) fun Dd σ H h => by
  obtain ⟨Y, F, δ, sr, post⟩ := h
  refine seqAT (k := fun ds δ1 => match ds with
  | [d, e] => .nx ((δ1.set i (some d)).set j (some e))
  | _ => .bad) sr post fun ds vs H1 F1 δ1 s1 sr1 r1 post1 => ?_
  match ds, r1, post1 with
  | [d, e], r1, post1 =>
    obtain ⟨v, u, rfl, r, r'⟩ := r1.two
    exact ⟨v, u, rfl, post1 _ H1 F1 .refl ((sr1.setSh r ni).setSh r' nj)⟩
  | [], _, post1 => exact post1.elim
  | [_], _, post1 => exact post1.elim
  | _ :: _ :: _ :: _, _, post1 => exact post1.elim
def sPar3 (i j l : Nat) (fs : DS → ResS (List D)) : DS → Out := fun δ => seqTL (fs δ) fun ds δ1 => match ds with
  | [d, e, g] => .nx (((δ1.set i (some d)).set j (some e)).set l (some g))
  | _ => .bad
theorem Rs.three {M : Md} {F : Fz} {H : Hp} {a b c : D} {vs : List V} (h : Rs M F H [a, b, c] vs) : ∃ u v w, vs = [u, v, w] ∧ R M F H a u ∧ R M F H b v ∧ R M F H c w := by
  obtain ⟨u, r, rfl, h1, h2⟩ := h
  obtain ⟨v, w, rfl, h3, h4⟩ := h2.two
  exact ⟨u, v, w, rfl, h1, h3, h4⟩
theorem ds_par3 {i j l : Nat} {x y z : Str} {c : Expr} {px py pz pt pt2 : Pos} {kt k2 : Nat} (hc : X.calm = true) (hN : X.N.Nodup) (hi : X.N[i]? = some x) (hj : X.N[j]? = some y) (hl : X.N[l]? = some z) (hij : i ≠ j) (hil : i ≠ l) (hjl : j ≠ l)
    (hx : X.env.scope.names.lookup x = some .local) (hy : X.env.scope.names.lookup y = some .local) (hz : X.env.scope.names.lookup z = some .local) (ha : DXA X W io G [a, b, c] fs G1)
    (hw : swappedStores [.Tuple [.Name x px, .Name y py, .Name z pz] kt pt] (.Tuple [a, b, c] k2 pt2) X.env = pure (some [x, y, z])) (ni : i ∉ io := by decide) (nj : j ∉ io := by decide) (nl : l ∉ io := by decide)
    (hs : swapsWithSole [.Tuple [.Name x px, .Name y py, .Name z pz] kt pt] (.Tuple [a, b, c] k2 pt2) pos.line X.env = pure false := by rfl) :
    DSt X W io ro G (.Assign [.Tuple [.Name x px, .Name y py, .Name z pz] kt pt] (.Tuple [a, b, c] k2 pt2) pos) (sPar3 i j l fs) (((G1.filter fun k => k != i).filter fun k => k != j).filter fun k => k != l) Gl := PS_imp (ps_par3 hc hN hi hj hl hij hil hjl hx hy hz ha hw hs) fun Dd σ H h => by
  obtain ⟨Y, F, δ, sr, post⟩ := h
  refine seqAT (k := fun ds δ1 => match ds with
  | [d, e, g] => .nx (((δ1.set i (some d)).set j (some e)).set l (some g))
  | _ => .bad) sr post fun ds vs H1 F1 δ1 s1 sr1 r1 post1 => ?_
  match ds, r1, post1 with
  | [d, e, g], r1, post1 =>
    obtain ⟨v, u, w, rfl, r, r', r''⟩ := r1.three
    exact ⟨v, u, w, rfl, post1 _ H1 F1 .refl (((sr1.setSh r ni).setSh r' nj).setSh r'' nl)⟩
  | [], _, post1 => exact post1.elim
  | [_], _, post1 => exact post1.elim
  | [_, _], _, post1 => exact post1.elim
  | _ :: _ :: _ :: _ :: _, _, post1 => exact post1.elim
/-- target = e, e's value shared -/
def sTg (t : D → Option (List (Nat × D))) (f : DS → ResS D) : DS → Out := fun δ => seqT (f δ) fun d δ1 => match t d with
  | some as => .nx (putAll δ1 as)
  | none => .bad
theorem ds_tg {is : List Nat} {t : D → Option (List (Nat × D))} (hg : DG X tg is t) (he : DX X W io G e false fa G1) (hn : ∀ i ∈ is, i ∉ G2 ∧ i ∉ io := by decide) (h1 : ∀ j ∈ G1, j ∈ G2 ∨ j ∉ io := by decide) (h2 : ∀ j ∈ G2, j ∈ G1 := by decide)
    (hs : swapsWithSole [tg] e pos.line X.env = pure false := by rfl) (hw : swappedStores [tg] e X.env = pure none := by rfl)
    (ha : (assignEach [tg] X.env).map (·.2) = [assign tg X.env] := by rfl) : DSt X W io ro G (.Assign [tg] e pos) (sTg t fa) G2 Gl := PS_imp (ps_asg he hg.pg hs hw ha) fun Dd σ H h => by
  obtain ⟨Y, F, δ, sr, post⟩ := h
  refine seqXT (k := fun d δ1 => match t d with
  | some as => .nx (putAll δ1 as)
  | none => .bad) sr post fun d v H1 F1 δ1 s1 sr1 r1 post1 => ?_
  cases q : t d with
  | none => rw [q] at post1; exact post1.elim
  | some as =>
    rw [q] at post1
    obtain ⟨F2, sr2, s2⟩ := sr1.drop h1 h2
    exact ⟨F2, d, as, R.st s2 r1, q, fun bs hb => post1 _ H1 F2 s2 (sr2.putAll hb (by rw [hg.sl _ _ q]; exact hn))⟩
/-! an owned object that waits while another expression runs -/
theorem SR.later {M : Md} {Y : FC} {F F2 : Fz} {H H2 : Hp} {σ : L2.St} {δ δ2 : DS} {Y' : FC} (s : SR M io Y F G H σ δ) (y0 : Y'.F0 = F) (y1 : Y'.H0 = H) (yio : ∀ p ∈ Y'.io, p.1 ∈ G ∧ σ[p.1]? = some (some (.ref p.2)) ∧ ∃ d, δ[p.1]? = some (some d)) (yi2 : ∀ p ∈ Y.io, p ∈ Y'.io)
    {io2 : List Nat} (s2 : SR M io2 Y' F2 G H2 σ δ2) : SR M io Y F2 G H2 σ δ2 := by
  have hp2 := s2.hp
  have no : ∀ a, Y'.H0 a = none → Y.H0 a = none := fun a z => by
    cases q : Y.H0 a with
    | none => rfl
    | some ob => rw [y1] at z; exact absurd z (s.hp.there a (by rw [q]; exact fun z => nomatch z))
  have sl : ∀ (i : Nat) (a : Addr) (d : D), i ∈ G → δ[i]? = some (some d) → σ[i]? = some (some (.ref a)) → Y.H0 a = none ∨ (i, a) ∈ Y.io := fun i a d m e q => by
    obtain ⟨b, h1, h2, h3, h4⟩ := s.ow i d e m
    rw [q] at h1; cases h1; exact h4
  have slp : ∀ q ∈ Y'.io, Y.H0 q.2 = none ∨ q ∈ Y.io := fun q hq => by
    obtain ⟨k1, k2, d, k3⟩ := yio q hq
    exact sl q.1 q.2 d k1 k3 k2
  refine ⟨⟨fun a h => hp2.le a (y0 ▸ s.hp.le a h), fun a h => ?_, fun a ob h w => ?_, fun a h => hp2.there a (y1 ▸ s.hp.there a h), hp2.dom⟩, s2.len, s2.sh, fun i d e m => ?_, s2.dj, s.iol, fun p hp => s2.ios p (yi2 p hp)⟩
  · rcases hp2.new a h with q | ⟨q1, q2⟩
    · rw [y0] at q
      rcases s.hp.new a q with q | ⟨q1, q2⟩
      · exact .inl q
      · exact .inr ⟨q1, hp2.there a (y1 ▸ q2)⟩
    · exact .inr ⟨no a q1, q2⟩
  · refine hp2.same a ob (by rw [y1]; exact s.hp.same a ob h w) fun q hq e => ?_
    rcases slp q hq with z | z
    · rw [e, h] at z; cases z
    · exact w _ z e
  · obtain ⟨a, h1, h2, h3, h4⟩ := s2.ow i d e m
    refine ⟨a, h1, h2, h3, ?_⟩
    rcases h4 with h4 | h4
    · exact .inl (no a h4)
    · exact slp _ h4
/-- the own objects by their slots -/
def ownL (G : List Nat) (σ : L2.St) (δ : DS) : List (Nat × Addr) := G.filterMap fun i => match δ[i]?, σ[i]? with
  | some (some (_ : D)), some (some (V.ref a)) => some (i, a)
  | _, _ => none
theorem ownL_mem {σ : L2.St} {δ : DS} {p : Nat × Addr} : p ∈ ownL G σ δ ↔ (p.1 ∈ G ∧ σ[p.1]? = some (some (.ref p.2)) ∧ ∃ d, δ[p.1]? = some (some d)) := by
  unfold ownL
  rw [List.mem_filterMap]
  constructor
  · rintro ⟨i, hi, e⟩
    split at e
    · rename_i d a h1 h2
      cases e; exact ⟨hi, h2, d, h1⟩
    · cases e
  · rintro ⟨h1, h2, d, h3⟩
    exact ⟨p.1, h1, by rw [h2, h3]⟩
/-- (e, e'), the first its own, while the second changes own objects -/
def xOwn2 (fa fb : DS → ResS D) : DS → ResS (D × D) := fun δ => (fa δ).bind fun d δ1 => (fb δ1).bind fun e δ2 => .ok (d, e) δ2
def sParO (i j : Nat) (fa fb : DS → ResS D) : DS → Out := fun δ => match xOwn2 fa fb δ with
  | .ok p δ1 => .nx ((δ1.set i (some p.1)).set j (some p.2))
  | .ex c fs => .ex c fs
  | .bad => .bad
theorem ds_parO {i j : Nat} {x y : Str} {px py pt pt2 : Pos} {kt k2 : Nat} (hc : X.calm = true) (hN : X.N.Nodup) (hi : X.N[i]? = some x) (hj : X.N[j]? = some y) (hij : i ≠ j)
    (hx : X.env.scope.names.lookup x = some .local) (hy : X.env.scope.names.lookup y = some .local) (ha : DX X W io G a true fa G) (hb : ∀ io2, DX X W io2 G b false fb G)
    (hw : swappedStores [.Tuple [.Name x px, .Name y py] kt pt] (.Tuple [a, b] k2 pt2) X.env = pure (some [x, y])) (ni : i ∉ io := by decide) (nj : j ∉ io := by decide)
    (hs : swapsWithSole [.Tuple [.Name x px, .Name y py] kt pt] (.Tuple [a, b] k2 pt2) pos.line X.env = pure false := by rfl)
    (s1 : starEach [a, b] X.env = (false, eval a X.env) :: starEach [b] X.env := by rfl) (s2 : starEach [b] X.env = (false, eval b X.env) :: starEach [] X.env := by rfl) :
    DSt X W io ro G (.Assign [.Tuple [.Name x px, .Name y py] kt pt] (.Tuple [a, b] k2 pt2) pos) (sParO i j fa fb) ((i :: G.filter fun k => k != i).filter fun k => k != j) Gl := by
  have hA : PA X [a, b] (tCons (tX (mdOf X) W io G true fa G) (tCons (fun σ H Q => ∃ io2, tX (mdOf X) W io2 G false fb G σ H Q) tNil)) :=
    pa_cons ha (pa_cons (show PE X b _ from ⟨fun pins s σ H Q I q => by obtain ⟨io2, q⟩ := q; exact (hb io2).run pins s σ H Q I q⟩) pa_nil s2) s1
  refine PS_imp (ps_par hc hN hi hj hij hx hy hA hw hs) fun Dd σ H h => ?_
  obtain ⟨Y, F, δ, sr, post⟩ := h
  refine ⟨Y, F, δ, sr, ?_⟩
  unfold sParO xOwn2 at post
  cases ea : fa δ with
  | bad => rw [ea] at post; exact post.elim
  | ex c fs => rw [ea] at post; exact fun cls dx H' F' s hp x => post cls dx σ H' F' s hp x
  | ok d δ1 =>
    rw [ea] at post
    intro v H1 F1 s1 sr1 g1
    obtain ⟨p, rfl, n0, nf, ow, no⟩ := g1
    simp only [ResS.bind] at post
    have hl := fun q => (ownL_mem (G := G) (σ := σ) (δ := δ1) (p := q))
    have sr1' : SR (mdOf X) ((ownL G σ δ1).map (·.1)) ⟨F1, H1, ownL G σ δ1⟩ F1 G H1 σ δ1 := by
      refine ⟨⟨fun _ h => h, fun _ h => .inl h, fun _ _ h _ => h, fun _ h => h, sr1.hp.dom⟩, sr1.len, sr1.sh, fun i d e m => ?_, sr1.dj, rfl, fun q hq => (hl q).mp hq⟩
      obtain ⟨a, h1, h2, h3, h4⟩ := sr1.ow i d e m
      exact ⟨a, h1, h2, h3, .inr ((hl (i, a)).mpr ⟨m, h1, d, e⟩)⟩
    have pio : ∀ q ∈ ownL G σ δ1, q.2 ≠ p := fun q hq e => by
      obtain ⟨k1, k2, d, k3⟩ := (hl q).mp hq
      exact no ⟨q.1, d, k1, k3, e ▸ k2⟩
    refine ⟨_, ⟨F1, H1, ownL G σ δ1⟩, F1, δ1, sr1', ?_⟩
    cases eb : fb δ1 with
    | bad => rw [eb] at post; exact post.elim
    | ex c fs =>
      rw [eb] at post
      intro cls dx H' F' s hp x
      refine post cls dx σ H' F' (s1.trans s) ?_ x
      refine ⟨fun a h => hp.le a (sr1.hp.le a h), fun a h => ?_, fun a ob h w => ?_, fun a h => hp.there a (sr1.hp.there a h), hp.dom⟩
      · rcases hp.new a h with q | ⟨q1, q2⟩
        · rcases sr1.hp.new a q with q | ⟨q1, q2⟩
          · exact .inl q
          · exact .inr ⟨q1, hp.there a q2⟩
        · refine .inr ⟨?_, q2⟩
          cases q : Y.H0 a with
          | none => rfl
          | some ob => exact absurd q1 (sr1.hp.there a (by rw [q]; exact fun z => nomatch z))
      · refine hp.same a ob (sr1.hp.same a ob h w) fun q hq e => ?_
        obtain ⟨k1, k2, d', k3⟩ := (hl q).mp hq
        obtain ⟨b', z1, z2, z3, z4⟩ := sr1.ow q.1 d' k3 k1
        rw [k2] at z1; cases z1
        rcases z4 with z | z
        · rw [e, h] at z; cases z
        · exact w _ z e
    | ok e δ2 =>
      rw [eb] at post
      intro v2 H2 F2 s2 sr2 g2
      have sr3 := sr1.later (Y' := ⟨F1, H1, ownL G σ δ1⟩) rfl rfl (fun q hq => (hl q).mp hq) (fun q hq => (hl q).mpr (sr1.ios q hq)) sr2
      -- the object that waited
      obtain ⟨ob, ho, mu⟩ := ow.there
      have keep : H2 p = some ob := sr2.hp.same p ob ho pio
      have nf2 : ¬ F2 p := fun z => (sr2.hp.new p z).elim nf fun z => (by rw [show H1 p = none from z.1] at ho; cases ho)
      have ow2 : OwnAt (mdOf X) F2 H2 p d := ow.mono s2.mono s2.le (by rw [ho, keep])
      have no2 : ¬ Owned G σ δ2 p := fun ⟨k, c, m, ek, qk⟩ => by
        obtain ⟨b', z1, z2, z3, z4⟩ := sr2.ow k c ek m
        rw [qk] at z1; cases z1
        rcases z4 with z | z
        · rw [show H1 p = none from z] at ho; cases ho
        · exact pio _ z rfl
      refine ⟨.ref p, v2, rfl, post _ H2 F2 (s1.trans s2) ?_⟩
      exact (sr3.setOw n0 nf2 ow2 no2 ni).setSh g2 nj
end
end Dn

set_option Elab.async false
set_option linter.all false
set_option maxRecDepth 100000
set_option autoImplicit false
set_option maxHeartbeats 4000000
namespace Dn
open PySem PySem.Spec L2
open PyProof.Rows hiding St

section
variable {X : Cx} {W : WX} {io G G1 G2 Gn Gl : List Nat} {e a b tg iter elt : Expr} {es ifs : List Expr} {o ro : Bool} {pos p p2 apos : Pos} {st : Stmt} {fa fb : DS → ResS D} {fs : DS → ResS (List D)} {f : DS → Res D}
/-! a method of an own list, as a statement: g tells of the items and the arguments the items behind and the value -/
def sMth (i : Nat) (g : List D → List D → Option (List D × D)) (fs : DS → ResS (List D)) : DS → Out := fun δ => match δ[i]? with
  | some (some (.lst _)) => seqTL (fs δ) fun ds δ1 => (match δ1[i]? with
    | some (some (.lst xs)) => (match g xs ds with
      | some r => .nx (δ1.set i (some (.lst r.1)))
      | none => .bad)
    | _ => .bad)
  | _ => .bad
/-- what such a method does to the list at a -/
def MutR (M : Md) (r : V → List V → Hp → VK → Prop) (g : List D → List D → Option (List D × D)) : Prop :=
  ∀ (F : Fz) (H : Hp) (a : Addr) (xs ds : List D) (us vs : List V) (ys : List D) (d : D) (Q : VK), H a = some (.lst us) → Rs M F H xs us → Rs M F H ds vs → g xs ds = some (ys, d) →
    (∀ ws v, Rs M F H ys ws → R M F H d v → Q v (upd H a (.lst ws))) → r (.ref a) vs H Q
theorem ds_mth {i : Nat} {x name : Str} {id : String} {r : V → List V → Hp → VK → Prop} {g : List D → List D → Option (List D × D)} {px cpos : Pos} (slot : Slot "list" name id) (hty : typeOf (.builtin id) = pure (.type "method_descriptor")) (hm : MtR X id r) (hr : MutR (mdOf X) r g)
    (ha : DXA X W io G (e :: es) fs G1) (m : i ∈ G := by decide) (m1 : i ∈ G1 := by decide) (hN : X.N[i]? = some x := by rfl) (hv : Vis X.env.scope x := by first | exact Or.inl rfl | exact Or.inr (Or.inl rfl) | exact Or.inr (Or.inr rfl)) (hd : (x == ("__debug__" : Str)) = false := by decide)
    (hcd : (x == ("__classdict__" : Str)) = false := by decide) (hbase : attributeBase (.Name x px) name X.env (eval (.Name x px) X.env) = eval (.Name x px) X.env := by rfl)
    (hfew : ((backTo cpos (starEach (e :: es) X.env)).all (fun x => !x.1) && (backToKw cpos (keywordEach [] X.env)).all (fun x => x.1.isSome)
      && decide ((e :: es).length + ([] : List Keyword).length + (if ([] : List Keyword).isEmpty then 0 else 1) < 30)) = true := by rfl)
    (hline : (apos.endLine == cpos.line) = true := by rfl) (hs : starEach (e :: es) X.env = (false, eval e X.env) :: starEach es X.env := by rfl) (hplain : (backTo cpos (starEach es X.env)).any (·.1) = false := by rfl)
    (hsw : swapsWith (.Call (.Attribute (.Name x px) name apos) (e :: es) [] cpos) none pos.line X.env = pure false := by rfl) :
    DSt X W io ro G (.Expr (.Call (.Attribute (.Name x px) name apos) (e :: es) [] cpos) pos) (sMth i g fs) G1 Gl := by
  refine PS_imp (ps_expr (pe_bm PySem.F.plainAttrs_list slot hty hm (pv i hN hv hd hcd) ha hbase hfew hline hs hplain) hsw) fun Dd σ H h => ?_
  obtain ⟨Y, F, δ, sr, post⟩ := h
  unfold sMth at post
  split at post
  case h_2 => exact post.elim
  rename_i xs0 e0
  obtain ⟨a, h1, h2, ⟨us0, h3, h3'⟩, h4⟩ := sr.ow i _ e0 m
  refine ⟨.ref a, h1, .inl ⟨rfl, us0, .inl (.inl h3)⟩, ?_⟩
  refine seqAT (k := fun ds δ1 => match δ1[i]? with
    | some (some (.lst xs)) => (match g xs ds with
      | some r => .nx (δ1.set i (some (.lst r.1)))
      | none => .bad)
    | _ => .bad) sr post fun ds vs H1 F1 δ1 s1 sr1 r1 post1 => ?_
  split at post1
  case h_2 => exact post1.elim
  rename_i xs e1
  obtain ⟨a', k1, k2, ⟨us, k3, k3'⟩, k4⟩ := sr1.ow i _ e1 m1
  rw [h1] at k1; cases k1
  cases q : g xs ds with
  | none => rw [q] at post1; exact post1.elim
  | some y =>
    rw [q] at post1
    obtain ⟨ys, d⟩ := y
    refine hr F1 H1 a xs ds us vs ys d _ k3 k3' r1 q fun ws v rw' _ => ?_
    have mn : Mono F1 H1 (upd H1 a (.lst ws)) := Mono.updN k2 k3 trivial
    obtain ⟨z1, z2⟩ := sr1.mut (d' := .lst ys) (o' := .lst ws) m1 e1 h1 ⟨ws, upd_same, rw'.mono mn fun _ z => z⟩
    exact post1 _ _ F1 z2 z1
def appD : List D → List D → Option (List D × D) := fun xs ds => match ds with
  | [d] => if xs.length < LN then some (xs ++ [d], .non) else none
  | _ => none
theorem mut_append {M : Md} : MutR M rAppend appD := fun F H a xs ds us vs ys d Q h1 h2 h3 h4 h5 => by
  unfold appD at h4
  split at h4
  · split at h4
    · rename_i x hl
      cases h4
      obtain ⟨v, rfl, r⟩ := h3.one
      refine ⟨a, us, v, rfl, rfl, h1, by rw [line_eq, ← h2.length]; exact hl, ?_⟩
      exact h5 _ _ (Rs.app h2 ⟨v, [], rfl, r, rfl⟩) rfl
    · cases h4
  · cases h4
theorem ds_append {i : Nat} {x : Str} {px cpos : Pos} (ha : DXA X W io G [e] fs G1) (m : i ∈ G := by decide) (m1 : i ∈ G1 := by decide) (hN : X.N[i]? = some x := by rfl) (hv : Vis X.env.scope x := by first | exact Or.inl rfl | exact Or.inr (Or.inl rfl) | exact Or.inr (Or.inr rfl)) (hd : (x == ("__debug__" : Str)) = false := by decide)
    (hcd : (x == ("__classdict__" : Str)) = false := by decide) (hbase : attributeBase (.Name x px) "append" X.env (eval (.Name x px) X.env) = eval (.Name x px) X.env := by rfl)
    (hfew : ((backTo cpos (starEach [e] X.env)).all (fun x => !x.1) && (backToKw cpos (keywordEach [] X.env)).all (fun x => x.1.isSome)
      && decide ([e].length + ([] : List Keyword).length + (if ([] : List Keyword).isEmpty then 0 else 1) < 30)) = true := by rfl)
    (hline : (apos.endLine == cpos.line) = true := by rfl) (hs : starEach [e] X.env = (false, eval e X.env) :: starEach [] X.env := by rfl) (hplain : (backTo cpos (starEach [] X.env)).any (·.1) = false := by rfl)
    (hsw : swapsWith (.Call (.Attribute (.Name x px) "append" apos) [e] [] cpos) none pos.line X.env = pure false := by rfl) :
    DSt X W io ro G (.Expr (.Call (.Attribute (.Name x px) "append" apos) [e] [] cpos) pos) (sMth i appD fs) G1 Gl :=
  ds_mth PySem.F.slot_list_append PySem.F.type_list_append (fun pins s σ H x xs v us Q I rx rv h => mt_append pins s σ H x xs v us Q I rx rv h) mut_append ha m m1 hN hv hd hcd hbase hfew hline hs hplain hsw
/-! x[i] = e on an own list -/
def sPut (i : Nat) (fe fi : DS → ResS D) : DS → Out := fun δ => seqT (fe δ) fun d δ1 => match δ1[i]? with
  | some (some (.lst _)) => seqT (fi δ1) fun k δ2 => (match k, δ2[i]? with
    | .int k, some (some (.lst xs)) => (match ixN xs.length k with
      | some j => .nx (δ2.set i (some (.lst (xs.set j d))))
      | none => .bad)
    | _, _ => .bad)
  | _ => .bad
theorem ds_put {i : Nat} {x : Str} {px tpos : Pos} {fe fi : DS → ResS D} (he : DX X W io G e false fe G1) (hi : DX X W io G1 a false fi G2) (m1 : i ∈ G1 := by decide) (m2 : i ∈ G2 := by decide) (hN : X.N[i]? = some x := by rfl) (hv : Vis X.env.scope x := by first | exact Or.inl rfl | exact Or.inr (Or.inl rfl) | exact Or.inr (Or.inr rfl)) (hd : (x == ("__debug__" : Str)) = false := by decide)
    (hcd : (x == ("__classdict__" : Str)) = false := by decide) (ha : ∀ v, assign (.Subscript (.Name x px) a tpos) X.env v = (do
      let ov ← holding [v] (eval (.Name x px) X.env)
      let iv ← holding [v, ov] (eval a X.env)
      standAt tpos
      holding [v, ov, iv] (setItem ov iv v)
      release [v, ov, iv] []) := by intro _; rfl)
    (hs : swapsWithSole [.Subscript (.Name x px) a tpos] e pos.line X.env = pure false := by rfl) (hw : swappedStores [.Subscript (.Name x px) a tpos] e X.env = pure none := by rfl)
    (h1 : (assignEach [.Subscript (.Name x px) a tpos] X.env).map (·.2) = [assign (.Subscript (.Name x px) a tpos) X.env] := by rfl) :
    DSt X W io ro G (.Assign [.Subscript (.Name x px) a tpos] e pos) (sPut i fe fi) G2 Gl := by
  -- the list's place is told before the index runs: it is that of the slot
  have hg : PG X (.Subscript (.Name x px) a tpos) (gSub (tVar i) (fun σ H Q => ∃ Y F δ, SR (mdOf X) io Y F G1 H σ δ ∧ PostS (mdOf X) W io false Y G2 F H σ Q (fi δ)) rSetL) := pg_sub (pv i hN hv hd hcd) hi set_list ha
  refine PS_imp (ps_asg he hg hs hw h1) fun Dd σ H h => ?_
  obtain ⟨Y, F, δ, sr, post⟩ := h
  refine seqXT (k := fun d δ1 => match δ1[i]? with
  | some (some (.lst _)) => seqT (fi δ1) fun k δ2 => (match k, δ2[i]? with
    | .int k, some (some (.lst xs)) => (match ixN xs.length k with
      | some j => .nx (δ2.set i (some (.lst (xs.set j d))))
      | none => .bad)
    | _, _ => .bad)
  | _ => .bad) sr post fun d v H1 F1 δ1 s1 sr1 r1 post1 => ?_
  split at post1
  case h_2 => exact post1.elim
  rename_i xs0 e0
  obtain ⟨p0, q1, q2, ⟨us0, q3, q3'⟩, q4⟩ := sr1.ow i _ e0 m1
  refine ⟨.ref p0, q1, Y, F1, δ1, sr1, ?_⟩
  cases efi : fi δ1 with
  | bad => rw [efi] at post1; exact post1.elim
  | ex c fs => rw [efi] at post1; exact fun cls dx H' F' s hp x => post1 cls dx σ H' F' s hp x
  | ok k δ2 =>
    rw [efi] at post1
    intro u H2 F2 s2 sr2 r2
    dsimp only [seqT] at post1
    split at post1
    case h_2 => exact post1.elim
    rename_i k xs e2
    cases ej : ixN xs.length k with
    | none => rw [ej] at post1; exact post1.elim
    | some j =>
      rw [ej] at post1
      obtain ⟨p1, k1, k2, ⟨us, k3, k3'⟩, k4⟩ := sr2.ow i _ e2 m2
      rw [q1] at k1; cases k1
      cases (show u = V.int k from r2)
      have r3 := R.st s2 r1
      have mn : Mono F2 H2 (upd H2 p0 (.lst (us.set j v))) := Mono.updN k2 k3 trivial
      obtain ⟨z1, z2⟩ := sr2.mut (d' := .lst (xs.set j d)) (o' := .lst (us.set j v)) m2 e2 q1 ⟨_, upd_same, (Rs.set j k3' r3).mono mn fun _ z => z⟩
      exact ⟨p0, us, k, j, rfl, rfl, k3, by rw [← k3'.length]; exact ej, post1 _ _ F2 (s2.trans z2) z1⟩
end
end Dn

set_option Elab.async false
set_option linter.all false
set_option maxRecDepth 100000
set_option autoImplicit false
set_option maxHeartbeats 4000000
namespace Dn
open PySem PySem.Spec L2
open PyProof.Rows hiding St

/-! ### defs that change the object they are handed first -/
/-- only the object at a is changed -/
structure Chg (F : Fz) (H : Hp) (a : Addr) (F' : Fz) (H' : Hp) : Prop where
  le : ∀ x, F x → F' x
  new : ∀ x, F' x → F x ∨ (H x = none ∧ H' x ≠ none)
  same : ∀ x o, H x = some o → x ≠ a → H' x = some o
  there : ∀ x, H x ≠ none → H' x ≠ none
def PostIO (M : Md) (o : Bool) (F : Fz) (H : Hp) (a : Addr) (Q : VK) (E : XK) : Res (D × D) → Prop
  | .ok p => ∀ v H' F', Chg F H a F' H' → OwnAt M F' H' a p.2 → Got M o F' H H' p.1 v → Q v H'
  | .ex c fs => ∀ cls dx H' F', Chg F H a F' H' → ExR M F' H' c fs cls dx → E cls dx H'
  | .bad => False
def spIO (M : Md) (o : Bool) (den : List D → Res (D × D)) : Sp := fun vs H Q E => ∃ F a us h ds, vs = .ref a :: us ∧ Dom F H ∧ ¬ F a ∧ OwnAt M F H a h ∧ Rs M F H ds us ∧ PostIO M o F H a Q E (den (h :: ds))
section
variable {M : Md} {io : List Nat} {Y : FC} {F F' F1 : Fz} {G : List Nat} {H H' H1 : Hp} {σ : L2.St} {δ : DS}
theorem Chg.mono {a : Addr} {d : D} (c : Chg F H a F' H') (nf : ¬ F a) (ow : OwnAt M F H a d) : Mono F H H' := fun x o e z => by
  obtain ⟨ob, ho, mu⟩ := ow.there
  refine c.same x o e fun w => ?_
  subst w
  rw [ho] at e; cases e
  rcases z with z | z
  · exact nf z
  · exact z mu
theorem SR.chgHp (s : SR M io Y F G H σ δ) {i : Nat} {d : D} {a : Addr} (m : i ∈ G) (e : δ[i]? = some (some d)) (q : σ[i]? = some (some (.ref a))) (c : Chg F H a F' H') : Hpo Y F' H' := by
  obtain ⟨b, h1, nf, ow0, h4⟩ := s.ow i d e m
  rw [q] at h1; cases h1
  refine ⟨fun x h => c.le x (s.hp.le x h), fun x h => ?_, fun x ob h w => ?_, fun x h => c.there x (s.hp.there x h), fun x h => ?_⟩
  · rcases c.new x h with z | ⟨z1, z2⟩
    · rcases s.hp.new x z with z | ⟨z1, z2⟩
      · exact .inl z
      · exact .inr ⟨z1, c.there x z2⟩
    · refine .inr ⟨?_, z2⟩
      cases y : Y.H0 x with
      | none => rfl
      | some ob => exact absurd z1 (s.hp.there x (by rw [y]; exact fun z => nomatch z))
  · refine c.same x ob (s.hp.same x ob h w) fun z => ?_
    subst z
    rcases h4 with h4 | h4
    · rw [h4] at h; cases h
    · exact w _ h4 rfl
  · rcases c.new x h with z | ⟨z1, z2⟩
    · exact c.there x (s.hp.dom x z)
    · exact z2
theorem SR.chg (s : SR M io Y F G H σ δ) {i : Nat} {d d' : D} {a : Addr} (m : i ∈ G) (e : δ[i]? = some (some d)) (q : σ[i]? = some (some (.ref a))) (c : Chg F H a F' H') (ow : OwnAt M F' H' a d') :
    SR M io Y F' G H' σ (δ.set i (some d')) ∧ Step F H F' H' := by
  have hpn := s.chgHp m e q c
  obtain ⟨b, h1, nf, ow0, h4⟩ := s.ow i d e m
  rw [q] at h1; cases h1
  have mn : Mono F H H' := c.mono nf ow0
  have hl : i < δ.length := (List.getElem?_eq_some_iff.mp e).1
  have nF : ∀ x, ¬ F x → H x ≠ none → ¬ F' x := fun x z y w => (c.new x w).elim z fun k => y k.1
  have nfa : ¬ F' a := nF a nf (by obtain ⟨o, ho, _⟩ := ow0.there; rw [ho]; exact fun z => nomatch z)
  refine ⟨⟨hpn, by rw [List.length_set]; exact s.len, fun j c0 h n => ?_, fun j c0 h m2 => ?_, fun j k b d1 e1 h1 h2 e1' e2' q1 q2 => ?_, s.iol, fun p hp => ?_⟩, ⟨c.le, mn⟩⟩
  · rcases set_get h with ⟨rfl, _, _⟩ | ⟨_, h⟩
    · exact absurd m n
    · obtain ⟨v, k1, k2⟩ := s.sh j c0 h n
      exact ⟨v, k1, k2.mono mn c.le⟩
  · rcases set_get h with ⟨rfl, z, _⟩ | ⟨ne, h⟩
    · cases z; exact ⟨a, q, nfa, ow, h4⟩
    · obtain ⟨b, k1, k2, k3, k4⟩ := s.ow j c0 h m2
      have nb : b ≠ a := fun z => by subst z; exact ne (s.dj i j b d c0 m m2 e h q k1)
      obtain ⟨ob, hob, _⟩ := k3.there
      exact ⟨b, k1, nF b k2 (by rw [hob]; exact fun z => nomatch z), k3.mono mn c.le (by rw [hob]; exact c.same b ob hob nb), k4⟩
  · have f : ∀ {j : Nat} {d1 : D}, (δ.set i (some d'))[j]? = some (some d1) → ∃ d2, δ[j]? = some (some d2) := fun {j d1} h => by
      rcases set_get h with ⟨rfl, _, _⟩ | ⟨_, h⟩
      · exact ⟨d, e⟩
      · exact ⟨d1, h⟩
    obtain ⟨x1, y1⟩ := f e1'
    obtain ⟨x2, y2⟩ := f e2'
    exact s.dj j k b x1 x2 h1 h2 y1 y2 q1 q2
  · obtain ⟨k1, k2, dd, k3⟩ := s.ios p hp
    refine ⟨k1, k2, ?_⟩
    by_cases z : i = p.1
    · exact ⟨d', by rw [← z]; exact List.getElem?_set_self hl⟩
    · exact ⟨dd, by rw [List.getElem?_set_ne z]; exact k3⟩
end
section
variable {X : Cx} {W : WX} {io G G1 G2 Gn Gl : List Nat} {e a b tg iter elt : Expr} {es ifs : List Expr} {o ro : Bool} {pos p p2 apos : Pos} {st : Stmt} {fa fb : DS → ResS D} {fs : DS → ResS (List D)} {f : DS → Res D}
def xIO (i : Nat) (den : List D → Res (D × D)) (fs : DS → ResS (List D)) : DS → ResS D := fun δ => match δ[i]? with
  | some (some _) => (fs δ).bind fun ds δ1 => (match δ1[i]? with
    | some (some h) => (match den (h :: ds) with
      | .ok p => .ok p.1 (δ1.set i (some p.2))
      | .ex c fs => .ex c fs
      | .bad => .bad)
    | _ => .bad)
  | _ => .bad
theorem dx_callIO {i k : Nat} {f : Addr} {fd : FuncData} {ps : List Str} {x y : Str} {px : Pos} {den : List D → Res (D × D)} (tk : Takes X W) (Gf : FnOk X.prog X.w X.K X.mg X.base (L2.CX X.prog X.w) k f fd ps (spIO (mdOf X) o den)) (hr : Room k X.A) (hg : L2.Gl X x) (hm : X.mg x = some (.ref f))
    (hk : PySem.W.keepIn X.K (.ref f) = true) (hb : Binds X.K fd ps []) (ha : DXA X W io G es fs G1) (m : i ∈ G := by decide) (m1 : i ∈ G1 := by decide) (hN : X.N[i]? = some y := by rfl) (hv : Vis X.env.scope y := by first | exact Or.inl rfl | exact Or.inr (Or.inl rfl) | exact Or.inr (Or.inr rfl)) (hyd : (y == ("__debug__" : Str)) = false := by decide)
    (hcd : (y == ("__classdict__" : Str)) = false := by decide) (hdb : (x == ("__debug__" : Str)) = false := by decide)
    (he : starEach (.Name y px :: es) X.env = (false, eval (.Name y px) X.env) :: starEach es X.env := by rfl) (hpl : (backTo pos (starEach es X.env)).any (·.1) = false := by rfl) :
    DX X W io G (.Call (.Name x p) (.Name y px :: es) [] pos) o (xIO i den fs) G1 := by
  refine PE_imp (pe_callS Gf hr hg hm hk hb (fun σ => passAt tk σ) (pa_cons (pv i hN hv hyd hcd) ha he) hdb he hpl) fun σ H Q h => ?_
  obtain ⟨Y, F, δ, sr, post⟩ := h
  unfold xIO at post
  split at post
  case h_2 => exact post.elim
  rename_i d0 e0
  obtain ⟨p0, q1, q2, q3, q4⟩ := sr.ow i _ e0 m
  refine ⟨.ref p0, q1, ?_⟩
  refine seqAX (k := fun ds δ1 => match δ1[i]? with
    | some (some h) => (match den (h :: ds) with
      | .ok p => .ok p.1 (δ1.set i (some p.2))
      | .ex c fs => .ex c fs
      | .bad => .bad)
    | _ => .bad) sr post fun ds vs H1 F1 δ1 s1 sr1 r1 post1 => ?_
  split at post1
  case h_2 => exact post1.elim
  rename_i h e1
  obtain ⟨p1, k1, k2, k3, k4⟩ := sr1.ow i _ e1 m1
  rw [q1] at k1; cases k1
  refine ⟨F1, p0, vs, h, ds, rfl, sr1.hp.dom, k2, k3, r1, ?_⟩
  cases q : den (h :: ds) with
  | bad => rw [q] at post1; exact post1.elim
  | ex c fs =>
    rw [q] at post1
    exact fun cls dx H' F' c x => post1 cls dx H' F' ⟨c.le, c.mono k2 k3⟩ (sr1.chgHp m1 e1 q1 c) x
  | ok r =>
    rw [q] at post1
    intro v H' F' c ow g
    obtain ⟨z1, z2⟩ := sr1.chg m1 e1 q1 c ow
    refine post1 v H' F' z2 z1 ?_
    cases o with
    | false => exact g
    | true =>
      obtain ⟨p2, ev, n0, nf, ow2⟩ := g
      refine ⟨p2, ev, ?_, nf, ow2, fun ⟨j, dj, mj, ej, qj⟩ => ?_⟩
      · cases y : Y.H0 p2 with
        | none => rfl
        | some ob => exact absurd n0 (sr1.hp.there p2 (by rw [y]; exact fun z => nomatch z))
      · rcases set_get ej with ⟨rfl, _, _⟩ | ⟨ne, ej⟩
        · rw [q1] at qj; cases qj
          obtain ⟨ob, hob, _⟩ := k3.there
          rw [n0] at hob; cases hob
        · exact (sr1.owned ⟨j, dj, mj, ej, qj⟩).2 n0
end
/-! ### the rule of a def -/
def denP (o : Bool) (n m : Nat) (fb : DS → Out) : List D → Res D := fun ds => if ds.length = n then (match fb (ds.map some ++ List.replicate (m - n) none) with
  | .rt d _ => .ok d
  | .nx _ => if o = true then .bad else .ok .non
  | .ex c fs => .ex c fs
  | _ => .bad) else .bad
def denIO (o : Bool) (n m : Nat) (fb : DS → Out) : List D → Res (D × D) := fun ds => if ds.length = n + 1 then (match fb (ds.map some ++ List.replicate (m - (n + 1)) none) with
  | .rt d δ => (match δ[0]? with
    | some (some h) => .ok (d, h)
    | _ => .bad)
  | .nx δ => if o = true then .bad else (match δ[0]? with
    | some (some h) => .ok (.non, h)
    | _ => .bad)
  | .ex c fs => .ex c fs
  | _ => .bad) else .bad
theorem Rs.get_some {M : Md} {F : Fz} {H : Hp} {ds : List D} {vs : List V} (h : Rs M F H ds vs) {i : Nat} {d : D} (e : ds[i]? = some d) : ∃ v, vs[i]? = some v ∧ R M F H d v := by
  induction ds generalizing vs i with
  | nil => simp at e
  | cons x ds ih =>
    obtain ⟨v, r, rfl, h1, h2⟩ := h
    cases i with
    | zero => cases e; exact ⟨v, rfl, h1⟩
    | succ i => exact ih h2 e
theorem slots_at {α : Type} {ds : List α} {n i : Nat} {d : α} (h : (ds.map some ++ List.replicate n none)[i]? = some (some d)) : ds[i]? = some d := by
  rw [List.getElem?_append] at h
  split at h
  · rw [List.getElem?_map] at h
    cases q : ds[i]? with
    | none => rw [q] at h; cases h
    | some x => rw [q] at h; cases h; rfl
  · rw [List.getElem?_replicate] at h
    split at h <;> cases h
theorem slots_of {α : Type} {ds : List α} {n i : Nat} {d : α} (h : ds[i]? = some d) : (ds.map some ++ List.replicate n none)[i]? = some (some d) := by
  have hl : i < ds.length := (List.getElem?_eq_some_iff.mp h).1
  rw [List.getElem?_append_left (by rw [List.length_map]; exact hl), List.getElem?_map, h]; rfl
section
variable {P : Program} {w : World} {K : PySem.W.Frag} {mg : Str → Option Value} {base : Heap} {x qual : Str} {st : Stmt} {f : Addr} {fd : FuncData} {N ps : List Str} {k : Nat} {o : Bool} {fb : DS → Out}
abbrev cxF (P : Program) (w : World) (K : PySem.W.Frag) (mg : Str → Option Value) (base : Heap) (N : List Str) (qual : Str) (st : Stmt) (f : Addr) (cdv : Value) (A : Around) (outer : List Env) (s : Shared) (H : Hp) (E : XK) : Cx := cxOf (L2.CX P w) P w K mg base N qual (defScope st) f cdv A outer s H E
abbrev WF (E : XK) : WX := fun cls d _ H => E cls d H
theorem fn_pure (Fn : Fun K x qual st f fd) (S : FnScope N ps (defScope st))
    (hbody : ∀ (cdv : Value) (A : Around) (outer : List Env) (s : Shared) (H : Hp) (E : XK), Room k (A.deeper (envOfC qual (defScope st) s.heap.objs.size f cdv)) → ∃ Gn, DSs (cxF P w K mg base N qual st f cdv A outer s H E) (WF E) [] o [] (defBody st) fb Gn []) :
    FnOk P w K mg base (L2.CX P w) (k + 1) f fd ps (spP ⟨K, mg, w⟩ o (denP o ps.length N.length fb)) := by
  have hlen : ∀ vs H Q E, spP ⟨K, mg, w⟩ o (denP o ps.length N.length fb) vs H Q E → vs.length = ps.length := fun vs H Q E ⟨F, ds, dm, rs, post⟩ => by
    unfold denP at post
    split at post
    · rename_i hl; rw [← rs.length]; exact hl
    · exact post.elim
  refine Fn.okX S hlen fun cdv A outer s H vs Q E hr hsp => ?_
  obtain ⟨Gn, hb⟩ := hbody cdv A outer s H E hr
  refine ⟨_, hb, ?_⟩
  have hl := hlen vs H Q E hsp
  obtain ⟨F, ds, dm, rs, post⟩ := hsp
  have hl2 : ds.length = ps.length := rs.length.trans hl
  unfold denP at post
  rw [if_pos hl2] at post
  let δ : DS := ds.map some ++ List.replicate (N.length - ps.length) none
  have sr : SR ⟨K, mg, w⟩ [] ⟨F, H, []⟩ F [] H (start N vs) δ := by
    refine ⟨⟨fun _ h => h, fun _ h => .inl h, fun _ _ h _ => h, fun _ h => h, dm⟩, ?_, fun i d e _ => ?_, fun i d e m => (nomatch m), fun i j a d e m => (nomatch m), rfl, fun p hp => (nomatch hp)⟩
    · show (ds.map some ++ List.replicate (N.length - ps.length) none).length = (vs.map some ++ List.replicate (N.length - vs.length) none).length
      rw [List.length_append, List.length_append, List.length_map, List.length_map, List.length_replicate, List.length_replicate, hl, hl2]
    · obtain ⟨v, h1, h2⟩ := rs.get_some (slots_at e)
      exact ⟨v, slots_of h1, h2⟩
  refine ⟨⟨F, H, []⟩, F, δ, sr, ?_⟩
  have fre : ∀ {F' : Fz} {H' : Hp}, Hpo ⟨F, H, []⟩ F' H' → Fresh F H F' H' := fun h => ⟨h.le, fun a o e => h.same a o e (fun p hp => (nomatch hp)), h.new⟩
  revert post
  show PostF _ o F H Q E (match fb δ with
    | .rt d _ => .ok d
    | .nx _ => if o = true then .bad else .ok .non
    | .ex c fs => .ex c fs
    | _ => .bad) → PostT _ _ _ _ _ _ _ F H _ (fb δ)
  cases fb δ with
  | bad => exact fun p => p
  | bk δ1 => exact fun p => p.elim
  | ct δ1 => exact fun p => p.elim
  | ex c fs => exact fun p cls dx σ' H' F' s hp x => p cls dx H' F' (fre hp) x
  | rt d δ1 =>
    intro p v H' F' s hp _ g
    exact p v H' F' (fre hp) g
  | nx δ1 =>
    intro p σ' H' F' s q
    cases o with
    | true => exact p.elim
    | false => exact p _ H' F' (fre q.hp) rfl
theorem fn_io (Fn : Fun K x qual st f fd) {n : Nat} (hn : ps.length = n + 1) (S : FnScope N ps (defScope st))
    (hbody : ∀ (cdv : Value) (A : Around) (outer : List Env) (s : Shared) (H : Hp) (E : XK), Room k (A.deeper (envOfC qual (defScope st) s.heap.objs.size f cdv)) → ∃ Gn, DSs (cxF P w K mg base N qual st f cdv A outer s H E) (WF E) [0] o [0] (defBody st) fb Gn []) :
    FnOk P w K mg base (L2.CX P w) (k + 1) f fd ps (spIO ⟨K, mg, w⟩ o (denIO o n N.length fb)) := by
  have hlen : ∀ vs H Q E, spIO ⟨K, mg, w⟩ o (denIO o n N.length fb) vs H Q E → vs.length = ps.length := fun vs H Q E ⟨F, a, us, h, ds, ev, dm, nf, ow, rs, post⟩ => by
    unfold denIO at post
    split at post
    · rename_i hl; rw [ev, hn, List.length_cons, ← rs.length]; simpa using hl
    · exact post.elim
  refine Fn.okX S hlen fun cdv A outer s H vs Q E hr hsp => ?_
  obtain ⟨Gn, hb⟩ := hbody cdv A outer s H E hr
  refine ⟨_, hb, ?_⟩
  have hl := hlen vs H Q E hsp
  obtain ⟨F, a, us, h, ds, ev, dm, nf, ow, rs, post⟩ := hsp
  subst ev
  have hl3 : us.length = n := by rw [hn, List.length_cons] at hl; omega
  have hl2 : (h :: ds).length = n + 1 := by rw [List.length_cons, rs.length, hl3]
  unfold denIO at post
  rw [if_pos hl2] at post
  let δ : DS := (h :: ds).map some ++ List.replicate (N.length - (n + 1)) none
  obtain ⟨ob, hob, mu⟩ := ow.there
  have hHa : H a ≠ none := by rw [hob]; exact fun z => nomatch z
  have sr : SR ⟨K, mg, w⟩ [0] ⟨F, H, [(0, a)]⟩ F [0] H (start N (.ref a :: us)) δ := by
    refine ⟨⟨fun _ h => h, fun _ h => .inl h, fun _ _ h _ => h, fun _ h => h, dm⟩, ?_, fun i d e m => ?_, fun i d e m => ?_, fun i j a d e m m2 => ?_, rfl, fun p hp => ?_⟩
    · show ((h :: ds).map some ++ List.replicate (N.length - (n + 1)) none).length = ((V.ref a :: us).map some ++ List.replicate (N.length - (V.ref a :: us).length) none).length
      rw [List.length_append, List.length_append, List.length_map, List.length_map, List.length_replicate, List.length_replicate, hl2, List.length_cons, hl3]
    · have e := slots_at e
      cases i with
      | zero => exact absurd (List.mem_singleton.mpr rfl) m
      | succ i =>
        obtain ⟨v, h1, h2⟩ := rs.get_some e
        exact ⟨v, slots_of (ds := V.ref a :: us) (i := i + 1) h1, h2⟩
    · cases List.mem_singleton.mp m
      have e := slots_at e
      cases e
      exact ⟨a, slots_of (ds := V.ref a :: us) (i := 0) rfl, nf, ow, .inr (List.mem_singleton.mpr rfl)⟩
    · intro _ _ _ _; rw [List.mem_singleton.mp m, List.mem_singleton.mp m2]
    · cases List.mem_singleton.mp hp
      exact ⟨List.mem_singleton.mpr rfl, slots_of (ds := V.ref a :: us) (i := 0) rfl, h, slots_of (ds := h :: ds) (i := 0) rfl⟩
  refine ⟨⟨F, H, [(0, a)]⟩, F, δ, sr, ?_⟩
  have fre : ∀ {F' : Fz} {H' : Hp}, Hpo ⟨F, H, [(0, a)]⟩ F' H' → Chg F H a F' H' := fun h => ⟨h.le, h.new, fun x o e ne => h.same x o e fun p hp => by cases List.mem_singleton.mp hp; exact Ne.symm ne, h.there⟩
  revert post
  show PostIO _ o F H a Q E (match fb δ with
    | .rt d δ => (match δ[0]? with
      | some (some h) => .ok (d, h)
      | _ => .bad)
    | .nx δ => if o = true then .bad else (match δ[0]? with
      | some (some h) => .ok (.non, h)
      | _ => .bad)
    | .ex c fs => .ex c fs
    | _ => .bad) → PostT _ _ _ _ _ _ _ F H _ (fb δ)
  cases fb δ with
  | bad => exact fun p => p
  | bk δ1 => exact fun p => p.elim
  | ct δ1 => exact fun p => p.elim
  | ex c fs => exact fun p cls dx σ' H' F' s hp x => p cls dx H' F' (fre hp) x
  | rt d δ1 =>
    intro p v H' F' s hp ioe g
    obtain ⟨hd, e0, ow0⟩ := ioe (0, a) (List.mem_singleton.mpr rfl)
    have e0 : δ1[0]? = some (some hd) := e0
    dsimp only at p
    rw [e0] at p
    exact p v H' F' (fre hp) ow0 g
  | nx δ1 =>
    intro p σ' H' F' s q
    cases o with
    | true => exact p.elim
    | false =>
      obtain ⟨hd, e0, ow0⟩ := q.ioEnd (0, a) (List.mem_singleton.mpr rfl)
      have e0 : δ1[0]? = some (some hd) := e0
      dsimp only at p
      rw [if_neg (fun z => nomatch z), e0] at p
      exact p _ H' F' (fre q.hp) ow0 rfl
end
end Dn

set_option Elab.async false
set_option linter.all false
set_option maxRecDepth 100000
set_option autoImplicit false
set_option maxHeartbeats 4000000
namespace Dn
open PySem PySem.Spec L2
open PyProof.Rows hiding St

section
variable {X : Cx} {W : WX} {e a b : Expr} {es : List Expr} {o : Bool} {pos p apos cpos : Pos} {fa fb fo : DS → Res D} {fs : DS → Res (List D)}
/-! ### what the module holds -/
theorem dp_glob {x : Str} {d : D} {v : V} {u : Value} (hg : L2.Gl X x) (hm : X.mg x = some u) (r : RelV v u) (c : ∀ F H, R (mdOf X) F H d v) (hd : (x == ("__debug__" : Str)) = false := by decide) : DP X W (.Name x pos) false (pC d) :=
  dp_c (pe_glob hg hm r hd) c

/-! ### isinstance(e, (T, ..)) -/
def isiAnyB (t : String) : List String → Option Bool
  | [] => some false
  | c :: r => match isiB t c with
    | some true => some true
    | some false => isiAnyB t r
    | none => none
def isiTD (ts : List String) (d : D) : Option D := (tyName d).bind fun a => (isiAnyB a ts).map .bl
theorem isiAnyB_kit {K : PySem.W.Frag} {t : String} : ∀ {ts : List String} {b : Bool}, isiAnyB t ts = some b → PySem.W.kitAny K (.type t) (ts.map fun n => Value.type n) = some b
  | [], b, h => h
  | c :: r, b, h => by
    unfold isiAnyB at h
    show (match PySem.W.kitOne K (.type t) (.type c) with | some true => some true | some false => PySem.W.kitAny K (.type t) (r.map fun n => Value.type n) | none => none) = some b
    cases q : isiB t c with
    | none => rw [q] at h; cases h
    | some k =>
      rw [q] at h
      rw [kit_ty (isiB_kit q)]
      cases k with
      | true => exact h
      | false => exact isiAnyB_kit h
def p1 (g : D → Option D) (fa : DS → Res D) : DS → Res D := fun δ => (fa δ).bind fun x => resO (g x)
/-- the names of built-in types -/
def tyTA : List String → TA
  | [] => tNil
  | n :: r => tCons (tC (.ty n)) (tyTA r)
theorem tyTA_run {σ : L2.St} {H : Hp} {Q : List V → Hp → Prop} : ∀ {ts : List String} , Q (ts.map fun n => V.ty n) H → tyTA ts σ H Q
  | [], h => h
  | n :: r, h => tyTA_run (ts := r) (Q := fun vs H' => Q (V.ty n :: vs) H') h
theorem clsAll : ∀ ts : List String, Paired ClsV (ts.map fun n => V.ty n) (ts.map fun n => Value.type n)
  | [] => .nil
  | n :: r => .cons (.ty n) (clsAll r)
theorem dp_isiT {x : Str} {px : Pos} {k : Nat} {tpos : Pos} {ts : List String} (hg : L2.Gl X x) (hm : X.mg x = none) (hv : bootBuiltins x = some (.builtin "isinstance")) (he : DP X W e false fa) (ht : PA X es (tyTA ts)) (hts : ts.length ≤ 9 := by decide) (hn : x ≠ "__name__" := by decide) (hdb : (x == ("__debug__" : Str)) = false := by decide)
    (s1 : starEach [e, .Tuple es k tpos] X.env = (false, eval e X.env) :: starEach [.Tuple es k tpos] X.env := by rfl) (s2 : starEach [.Tuple es k tpos] X.env = (false, eval (.Tuple es k tpos) X.env) :: starEach [] X.env := by rfl)
    (hpl : (backTo pos (starEach [.Tuple es k tpos] X.env)).any (·.1) = false := by rfl) :
    DP X W (.Call (.Name x px) [e, .Tuple es k tpos] [] pos) false (p1 (isiTD ts) fa) := by
  refine PE_imp (pe_callB call_isiT hg hm hv (pa_cons he (pa_cons (pe_tup ht) pa_nil s2) s1) hn hdb s1 hpl) fun σ H Q h => ?_
  obtain ⟨F, δ, pr, post⟩ := h
  refine seqP (k := fun x => resO (isiTD ts x)) pr post fun d v H1 F1 hd f1 r1 post1 => ?_
  cases q : isiTD ts d with
  | none => rw [q] at post1; exact post1.elim
  | some r =>
    rw [q] at post1
    unfold isiTD at q
    cases q2 : tyName d with
    | none => rw [q2] at q; cases q
    | some a =>
      rw [q2] at q
      obtain ⟨b, q3, rfl⟩ := Option.map_eq_some_iff.mp q
      refine tyTA_run ⟨?_, fun tp htp => ?_⟩
      · rw [List.length_map]; exact Nat.le_trans hts (by decide)
      · have fr : Fresh F1 H1 F1 (upd H1 tp (.tup (ts.map fun n => V.ty n))) := .upd htp
        exact ⟨v, tp, _, _, _, b, rfl, upd_same, clsAll ts, tyX_of (R.fr fr r1) q2, isiAnyB_kit q3, post1 _ _ F1 fr rfl⟩

/-! ### methods -/
def recvOk (T : String) : D → Bool
  | .str _ => T == "str"
  | .lst _ => T == "list"
  | .fl _ => T == "list"
  | .dct 0 _ _ => T == "dict"
  | .dct 1 _ _ => T == "dict"
  | .dct 2 _ _ => T == "dict"
  | _ => false
theorem recv_of {pins : List (Addr × Obj)} {σ : L2.St} {H : Hp} {s : Shared} {F : Fz} {T : String} : ∀ {d : D} {x : V} {v : Value}, Inv X pins σ H s → R (mdOf X) F H d x → RelV x v → recvOk T d = true →
    s.TypeIs v T ∧ ∀ b, v = .ref b → ∃ ob, s.heap.get? b = some ob ∧ ob.dict = none
  | .str z, x, v, I, r, rv, h => by cases (show x = _ from r); exact tyV_is I rv (by simpa [tyV, recvOk] using h)
  | .lst xs, x, v, I, r, rv, h => by obtain ⟨a, us, rfl, _, t, _⟩ := r; exact tyV_is I rv (.inl ⟨by simpa [recvOk] using h, us, .inl (.inl t)⟩)
  | .fl xs, x, v, I, r, rv, h => by obtain ⟨a, us, rfl, t, _⟩ := r; exact tyV_is I rv (.inl ⟨by simpa [recvOk] using h, us, t.sq⟩)
  | .dct 0 _ _, x, v, I, r, rv, h => by obtain ⟨a, us, rfl, _, t, _⟩ := r; exact tyV_is I rv (.inr (.inr (.inl ⟨by simpa [recvOk] using h, .inl ⟨us, t⟩⟩)))
  | .dct 1 _ _, x, v, I, r, rv, h => by obtain ⟨a, us, rfl, _, t, _⟩ := r; exact tyV_is I rv (.inr (.inr (.inl ⟨by simpa [recvOk] using h, .inr ⟨us, t⟩⟩)))
  | .dct 2 _ _, x, v, I, r, rv, h => by
    obtain ⟨a, us, rfl, ⟨es, n, lk, _⟩, _⟩ := r
    cases (show v = Value.ref a from rv)
    have hT : T = "dict" := by simpa [recvOk] using h
    subst hT
    exact ⟨⟨_, I.kIn a _ lk, rfl⟩, fun b e => by cases e; exact ⟨_, I.kIn a _ lk, rfl⟩⟩
  | .dct (n + 3) _ _, _, _, _, r, _, _ => r.elim
  | .non, _, _, _, _, _, h => by cases h
  | .bl _, _, _, _, _, _, h => by cases h
  | .int _, _, _, _, _, _, h => by cases h
  | .ty _, _, _, _, _, _, h => by cases h
  | .fn _, _, _, _, _, _, h => by cases h
  | .tup _, _, _, _, _, _, h => by cases h
/-- what a method does with values -/
def rM (M : Md) (o : Bool) (g : D → List D → Option D) : V → List V → Hp → VK → Prop := fun x xs H Q => ∃ F d ds r, Dom F H ∧ R M F H d x ∧ Rs M F H ds xs ∧ g d ds = some r ∧ ∀ v H' F', Fresh F H F' H' → Got M o F' H H' r v → Q v H'
def pM (T : String) (g : D → List D → Option D) (fo : DS → Res D) (fs : DS → Res (List D)) : DS → Res D := fun δ => (fo δ).bind fun d => if recvOk T d = true then (fs δ).bind fun ds => resO (g d ds) else .bad
theorem dp_mth {T : String} {name : Str} {id : String} {g : D → List D → Option D} (pa : PlainAttrs T) (slot : Slot T name id) (hty : typeOf (.builtin id) = pure (.type "method_descriptor")) (hm : MtR X id (rM (mdOf X) o g)) (ho : DP X W a false fo) (ha : DA X W (e :: es) fs)
    (hbase : attributeBase a name X.env (eval a X.env) = eval a X.env := by rfl)
    (hfew : ((backTo cpos (starEach (e :: es) X.env)).all (fun x => !x.1) && (backToKw cpos (keywordEach [] X.env)).all (fun x => x.1.isSome)
      && decide ((e :: es).length + ([] : List Keyword).length + (if ([] : List Keyword).isEmpty then 0 else 1) < 30)) = true := by rfl)
    (hline : (apos.endLine == cpos.line) = true := by rfl) (hs : starEach (e :: es) X.env = (false, eval e X.env) :: starEach es X.env := by rfl) (hplain : (backTo cpos (starEach es X.env)).any (·.1) = false := by rfl) :
    DP X W (.Call (.Attribute a name apos) (e :: es) [] cpos) o (pM T g fo fs) := by
  refine ⟨fun pins s σ H Q I h => ?_⟩
  obtain ⟨F, δ, pr, post⟩ := h
  have q0 : tP (mdOf X) W false fo σ H (fun v H1 => ∃ d F1, Fresh F H F1 H1 ∧ R (mdOf X) F1 H1 d v ∧ recvOk T d = true ∧ PostP (mdOf X) W o F1 H1 σ Q ((fs δ).bind fun ds => resO (g d ds))) := by
    refine seqP (k := fun d => if recvOk T d = true then (fs δ).bind fun ds => resO (g d ds) else .bad) pr post fun d v H1 F1 hd f1 r1 post1 => ?_
    split at post1
    · rename_i q; exact ⟨d, F1, f1, r1, q, post1⟩
    · exact post1.elim
  refine wpAny_Call_method_late hbase hfew hline rfl (thn (ho.run pins s σ H _ I q0) fun v s1 ⟨x, H1, I1, r1, d, F1, f1, rd, q1, post1⟩ => ?_)
  obtain ⟨h1, h2⟩ := recv_of I1 rd r1 q1
  refine ⟨T, id, pa, slot, hty, h1, h2, ?_⟩
  have qa : tPA (mdOf X) W fs σ H1 (fun vs H2 => ∃ ds F2, Fresh F1 H1 F2 H2 ∧ Rs (mdOf X) F2 H2 ds vs ∧ PostP (mdOf X) W o F2 H2 σ Q (resO (g d ds))) :=
    seqA (k := fun ds => resO (g d ds)) (pr.fr f1) post1 fun ds vs H2 F2 hds f2 r2 post2 => ⟨ds, F2, f2, r2, post2⟩
  have hA := ha.run cpos pins s1 σ H1 _ I1 qa
  rw [hs] at hA ⊢
  refine Calls.callWith_builtin (by show (false || (backTo cpos (starEach es X.env)).any (·.1)) = false; rw [hplain] <;> rfl) (Calls.evalArgs_plain ?_)
  refine thn hA fun us s2 ⟨vs, H2, I2, r2, ds, F2, f2, rds, post2⟩ => hm pins s2 σ H2 x vs v us Q I2 r1 r2 ?_
  cases q : g d ds with
  | none => rw [q] at post2; exact post2.elim
  | some r =>
    rw [q] at post2
    exact ⟨F2, d, ds, r, (pr.dom.fr (f1.trans f2)), rd.fr f2, rds, q, fun v' H' F' fr gt => post2 v' H' F' fr gt⟩
/-! str.join -/
def strsOf : List D → Option (List Str)
  | [] => some []
  | .str x :: r => (strsOf r).map fun xs => x :: xs
  | _ :: _ => none
theorem strsOf_rs {M : Md} {F : Fz} {H : Hp} : ∀ {ds : List D} {xs : List Str} {vs : List V}, strsOf ds = some xs → Rs M F H ds vs → vs = xs.map V.str
  | [], _, _, h, r => by cases h; cases (show _ = [] from r); rfl
  | .str x :: ds, _, _, h, r => by
    change (strsOf ds).map _ = _ at h
    obtain ⟨ys, h1, rfl⟩ := Option.map_eq_some_iff.mp h
    obtain ⟨v, r', rfl, e1, e2⟩ := r
    cases (show v = _ from e1)
    rw [strsOf_rs h1 e2]; rfl
  | .non :: _, _, _, h, _ => by cases h
  | .bl _ :: _, _, _, h, _ => by cases h
  | .int _ :: _, _, _, h, _ => by cases h
  | .ty _ :: _, _, _, h, _ => by cases h
  | .fn _ :: _, _, _, h, _ => by cases h
  | .tup _ :: _, _, _, h, _ => by cases h
  | .lst _ :: _, _, _, h, _ => by cases h
  | .fl _ :: _, _, _, h, _ => by cases h
  | .dct _ _ _ :: _, _, _, h, _ => by cases h
def joinG (a : Str) (xs : List D) : Option D := (strsOf xs).bind fun ys => if (ys.map (·.length)).sum + ys.length * a.length ≤ 16777216 then some (.str (Txt.join a ys)) else none
def joinD : D → List D → Option D
  | .str a, [.lst xs] => joinG a xs
  | .str a, [.tup xs] => joinG a xs
  | .str a, [.fl xs] => joinG a xs
  | _, _ => none
theorem m_join : MtR X "str.join" (rM (mdOf X) false joinD) := by
  intro pins s σ H x xs v us Q I rx rs ⟨F, d, ds, r, dm, h1, h2, h3, h4⟩
  have key : ∀ {a : Str} {ys : List D} {p : Addr} {ws : List V}, joinG a ys = some r → x = .str a → xs = [.ref p] → Rs (mdOf X) F H ys ws → (SqL X.K H p ws ∨ SqT X.K H p ws) → wpAny (model X.prog X.w) X.A (call (.builtin "str.join") (v :: us)) (EP X pins σ Q) X.xe s := by
    intro a ys p ws hj e1 e2 rw' sq
    unfold joinG at hj
    cases q : strsOf ys with
    | none => rw [q] at hj; cases hj
    | some zs =>
      rw [q] at hj
      change (if _ then _ else _) = _ at hj
      split at hj
      · rename_i hz
        cases hj
        have := strsOf_rs q rw'
        subst this
        exact mt_join pins s σ H x xs v us Q I rx rs ⟨a, p, zs, e1, e2, sq, hz, h4 _ H F (.refl F H) rfl⟩
      · cases hj
  unfold joinD at h3
  split at h3
  · obtain ⟨u, rfl, a', us', rfl, _, t, rr⟩ := h2.one
    exact key h3 h1 rfl rr (.inl (.inl (.inl t)))
  · obtain ⟨u, rfl, a', us', rfl, t, rr⟩ := h2.one
    exact key h3 h1 rfl rr (.inr t)
  · obtain ⟨u, rfl, a', us', rfl, t, rr⟩ := h2.one
    exact key h3 h1 rfl rr (.inl t.sq)
  · cases h3
theorem dp_join (ho : DP X W a false fo) (ha : DA X W [e] fs)
    (hbase : attributeBase a "join" X.env (eval a X.env) = eval a X.env := by rfl)
    (hfew : ((backTo cpos (starEach [e] X.env)).all (fun x => !x.1) && (backToKw cpos (keywordEach [] X.env)).all (fun x => x.1.isSome)
      && decide ([e].length + ([] : List Keyword).length + (if ([] : List Keyword).isEmpty then 0 else 1) < 30)) = true := by rfl)
    (hline : (apos.endLine == cpos.line) = true := by rfl) (hs : starEach [e] X.env = (false, eval e X.env) :: starEach [] X.env := by rfl) (hplain : (backTo cpos (starEach [] X.env)).any (·.1) = false := by rfl) :
    DP X W (.Call (.Attribute a "join" apos) [e] [] cpos) false (pM "str" joinD fo fs) := dp_mth PySem.F.plainAttrs_str PySem.F.slot_str_join PySem.F.type_str_join m_join ho ha hbase hfew hline hs hplain
/-! dict.get -/
def dgetD : D → List D → Option D
  | .dct n ks vs, [k] => (lookE n ks vs k).map fun r => r.getD .non
  | .dct n ks vs, [k, d] => (lookE n ks vs k).map fun r => r.getD d
  | _, _ => none
theorem m_dget : MtR X "dict.get" (rM (mdOf X) false dgetD) := by
  intro pins s σ H x xs v us Q I rx rs ⟨F, d, ds, r, dm, h1, h2, h3, h4⟩
  unfold dgetD at h3
  split at h3
  · rename_i n ks vs k
    obtain ⟨r', q, rfl⟩ := Option.map_eq_some_iff.mp h3
    obtain ⟨y, rfl, ry⟩ := h2.one
    obtain ⟨u, rfl, ru⟩ := vals1 rs
    obtain ⟨κ, _, knd, kk, f, p, rfl, rfl, hz, hk, hm, fnd⟩ := map_of I h1 rx ry ru q
    refine call_meetsIn PySem.F.slot_dict_get hm.typeIs PySem.F.entry_dict_get (PySem.F.args_dict_get_2 _ _) (meets_dict_get knd p hk hz) ⟨f, hm, ?_⟩
    cases r' with
    | none =>
      rw [show f kk = none from fnd]
      exact ⟨.non, H, I.tok _, rfl, h4 _ H F (.refl F H) rfl⟩
    | some c =>
      obtain ⟨z, w, e1, e2, e3⟩ := fnd
      rw [e1]
      exact ⟨z, H, I.tok _, e2, h4 _ H F (.refl F H) e3⟩
  · rename_i n ks vs k dd
    obtain ⟨r', q, rfl⟩ := Option.map_eq_some_iff.mp h3
    obtain ⟨y, y2, rfl, ry, ry2⟩ := h2.two
    obtain ⟨u, u2, rfl, ru, ru2⟩ := vals2 rs
    obtain ⟨κ, _, knd, kk, f, p, rfl, rfl, hz, hk, hm, fnd⟩ := map_of I h1 rx ry ru q
    refine call_meetsIn PySem.F.slot_dict_get hm.typeIs PySem.F.entry_dict_get (PySem.F.args_dict_get_3 _ _ _) (meets_dict_get_default knd p hk hz u2) ⟨f, hm, ?_⟩
    cases r' with
    | none =>
      rw [show f kk = none from fnd]
      exact ⟨y2, H, I.tok _, ru2, h4 _ H F (.refl F H) ry2⟩
    | some c =>
      obtain ⟨z, w, e1, e2, e3⟩ := fnd
      rw [e1]
      exact ⟨z, H, I.tok _, e2, h4 _ H F (.refl F H) e3⟩
  · cases h3
theorem dp_dget (ho : DP X W a false fo) (ha : DA X W (e :: es) fs)
    (hbase : attributeBase a "get" X.env (eval a X.env) = eval a X.env := by rfl)
    (hfew : ((backTo cpos (starEach (e :: es) X.env)).all (fun x => !x.1) && (backToKw cpos (keywordEach [] X.env)).all (fun x => x.1.isSome)
      && decide ((e :: es).length + ([] : List Keyword).length + (if ([] : List Keyword).isEmpty then 0 else 1) < 30)) = true := by rfl)
    (hline : (apos.endLine == cpos.line) = true := by rfl) (hs : starEach (e :: es) X.env = (false, eval e X.env) :: starEach es X.env := by rfl) (hplain : (backTo cpos (starEach es X.env)).any (·.1) = false := by rfl) :
    DP X W (.Call (.Attribute a "get" apos) (e :: es) [] cpos) false (pM "dict" dgetD fo fs) := dp_mth PySem.F.plainAttrs_dict PySem.F.slot_dict_get PySem.F.type_dict_get m_dget ho ha hbase hfew hline hs hplain
end
end Dn

set_option Elab.async false
set_option linter.all false
set_option maxRecDepth 100000
set_option autoImplicit false
set_option maxHeartbeats 4000000
namespace Dn
open PySem PySem.Spec L2
open PyProof.Rows hiding St

/-! ### dict displays, keys numbers and texts, no key twice -/
section
variable {X : Cx} {W : WX} {pos : Pos}
abbrev PF := (DS → Res D) × (DS → Res D)
def trP (M : Md) (W : WX) : List PF → List (TE × TE) := List.map fun p => (tP M W false p.1, tP M W false p.2)
def DPPs (X : Cx) (W : WX) (pos : Pos) (keys : List (Option Expr)) (values : List Expr) (fps : List PF) : Prop := PPs X pos keys values (trP (mdOf X) W fps)
theorem dpp_nil : DPPs X W pos [] [] [] := pps_nil
theorem dpp_cons {k v : Expr} {ks : List (Option Expr)} {vs : List Expr} {fk fv : DS → Res D} {fps : List PF} (hk : DP X W k false fk) (hv : DP X W v false fv) (hr : DPPs X W pos ks vs fps) : DPPs X W pos (some k :: ks) (v :: vs) ((fk, fv) :: fps) := pps_cons hk hv hr
def pPairs : List PF → DS → Res (List D × List D)
  | [], _ => .ok ([], [])
  | (fk, fv) :: r, δ => (fk δ).bind fun k => (fv δ).bind fun v => (pPairs r δ).bind fun p => .ok (k :: p.1, v :: p.2)
def PostPP (M : Md) (W : WX) (F : Fz) (H : Hp) (σ : L2.St) (Q : List (V × V) → Hp → Prop) : Res (List D × List D) → Prop
  | .ok p => ∀ ps H' F', Fresh F H F' H' → Rs M F' H' p.1 (ps.map (·.1)) → Rs M F' H' p.2 (ps.map (·.2)) → Q ps H'
  | .ex c fs => PostX M W F H σ c fs
  | .bad => False
theorem PostPP.step {M : Md} {W : WX} {F F1 : Fz} {H H1 : Hp} {σ : L2.St} {Q : List (V × V) → Hp → Prop} (a : Fresh F H F1 H1) : ∀ {r : Res (List D × List D)}, PostPP M W F H σ Q r → PostPP M W F1 H1 σ Q r
  | .ok d, p => fun ps H' F' f g1 g2 => p ps H' F' (a.trans f) g1 g2
  | .ex c fs, p => PostX.step a p
  | .bad, p => p.elim
theorem seqPP {M : Md} {W : WX} {F : Fz} {H : Hp} {σ : L2.St} {δ : DS} {fa : DS → Res D} {k : D → Res (List D × List D)} {Q : List (V × V) → Hp → Prop} (pr : PR M F H σ δ) (post : PostPP M W F H σ Q ((fa δ).bind k)) {Q1 : VK}
    (hk : ∀ d v H1 F1, fa δ = .ok d → Fresh F H F1 H1 → R M F1 H1 d v → PostPP M W F1 H1 σ Q (k d) → Q1 v H1) : tP M W false fa σ H Q1 := by
  refine ⟨F, δ, pr, ?_⟩
  cases e : fa δ with
  | ok d => rw [e] at post; exact fun v H1 F1 f g => hk d v H1 F1 e f g (PostPP.step f post)
  | ex c fs => rw [e] at post; exact post
  | bad => rw [e] at post; exact post
theorem pairs_run {M : Md} {σ : L2.St} {δ : DS} : ∀ {fps : List PF} {F : Fz} {H : Hp} {Q : List (V × V) → Hp → Prop}, PR M F H σ δ → PostPP M W F H σ Q (pPairs fps δ) → tPairs (trP M W fps) σ H Q
  | [], F, H, Q, pr, post => post [] H F (.refl F H) rfl rfl
  | (fk, fv) :: r, F, H, Q, pr, post => by
    refine seqPP (k := fun k => (fv δ).bind fun v => (pPairs r δ).bind fun p => .ok (k :: p.1, v :: p.2)) pr post fun kd kv H1 F1 hk f1 r1 post1 => ?_
    refine seqPP (k := fun v => (pPairs r δ).bind fun p => .ok (kd :: p.1, v :: p.2)) (pr.fr f1) post1 fun vd vv H2 F2 hv f2 r2 post2 => ?_
    refine pairs_run ((pr.fr f1).fr f2) ?_
    cases q : pPairs r δ with
    | bad => rw [q] at post2; exact post2
    | ex c fs => rw [q] at post2; exact post2
    | ok p =>
      rw [q] at post2
      exact fun ps H' F' f g1 g2 => post2 _ H' F' f ⟨kv, _, rfl, (r1.fr f2).fr f, g1⟩ ⟨vv, _, rfl, r2.fr f, g2⟩
theorem putK_new {kvs : List (Key × V)} {k : Key} {v : V} (h : k ∉ kvs.map (·.1)) : putK kvs k v = kvs ++ [(k, v)] := by
  unfold putK
  rw [if_neg]
  simp only [List.any_eq_true, decide_eq_true_eq, not_exists, not_and]
  intro p hp e
  exact h (List.mem_map.mpr ⟨p, hp, e⟩)
theorem mergeK_new : ∀ {more kvs : List (Key × V)}, (more.map (·.1)).Nodup → (∀ k ∈ more.map (·.1), k ∉ kvs.map (·.1)) → mergeK kvs more = kvs ++ more
  | [], kvs, _, _ => (List.append_nil kvs).symm
  | p :: r, kvs, hn, hd => by
    rw [List.map_cons, List.nodup_cons] at hn
    show mergeK (putK kvs p.1 p.2) r = _
    rw [putK_new (hd p.1 List.mem_cons_self), mergeK_new hn.2 ?_, List.append_assoc]
    · rfl
    · intro k hk m
      rw [List.map_append, List.mem_append] at m
      rcases m with m | m
      · exact hd k (List.mem_cons_of_mem _ hk) m
      · rw [List.map_cons, List.map_nil, List.mem_singleton] at m
        subst m; exact hn.1 hk
def dispD (p : List D × List D) : Option D := (keysOf p.1).bind fun ks => if ks.Nodup ∧ ks.length ≤ 15 then some (.dct 0 p.1 p.2) else none
def pDisp (fps : List PF) : DS → Res D := fun δ => (pPairs fps δ).bind fun p => resO (dispD p)
theorem keysOf_map : ∀ {ds : List D} {ks : List Key}, keysOf ds = some ks → ds = ks.map keyD
  | [], _, h => by cases h; rfl
  | d :: ds, _, h => by
    change ((keyOf d).bind fun k => (keysOf ds).bind fun ks => some (k :: ks)) = _ at h
    cases q : keyOf d with
    | none => rw [q] at h; cases h
    | some k =>
      cases q2 : keysOf ds with
      | none => rw [q, q2] at h; cases h
      | some ks => rw [q, q2] at h; cases h; rw [List.map_cons, ← keysOf_map q2, ← keyOf_some q]
theorem dp_disp {keys : List (Option Expr)} {values : List Expr} {fps : List PF} (h : DPPs X W pos keys values fps) (hall : keys.all (·.isSome) = true := by rfl) (hl : keys.length = values.length := by rfl) (h0 : keys ≠ [] := by exact List.cons_ne_nil _ _)
    (h15 : keys.length ≤ 15 := by decide) : DP X W (.Dict keys values pos) true (pDisp fps) := by
  refine PE_imp (pe_disp h hall hl h0 h15) fun σ H Q h => ?_
  obtain ⟨F, δ, pr, post⟩ := h
  intro p hp
  have f0 : Fresh F H F (upd H p (.dK [])) := .upd hp
  have np : ¬ F p := fun z => pr.dom p z hp
  refine pairs_run (pr.fr f0) ?_
  unfold pDisp at post
  cases q : pPairs fps δ with
  | bad => rw [q] at post; exact post
  | ex c fs => rw [q] at post; exact PostX.step f0 post
  | ok pp =>
    rw [q] at post
    intro ps H' F' f g1 g2
    change PostP _ _ _ _ _ _ _ (resO (dispD pp)) at post
    cases q2 : dispD pp with
    | none => rw [q2] at post; exact post.elim
    | some r =>
      rw [q2] at post
      unfold dispD at q2
      cases q3 : keysOf pp.1 with
      | none => rw [q3] at q2; cases q2
      | some ks =>
        rw [q3] at q2
        change (if _ then _ else _) = _ at q2
        split at q2
        · rename_i hk
          cases q2
          have e1 := keysOf_map q3
          have hs : H' p = some (.dK []) := f.same _ _ upd_same
          -- the pairs' keys
          have kk : ps.map (·.1) = ks.map kV := by
            rw [e1] at g1
            clear q q3 post h0 h15 hl hall g2 e1 hk h
            generalize ps.map (·.1) = us at g1
            induction ks generalizing us with
            | nil => cases (show us = [] from g1); rfl
            | cons k ks ih =>
              obtain ⟨u, r, rfl, h1, h2⟩ := g1
              rw [List.map_cons, ← ih r h2, R_key h1]
          have zl : ps.length = ks.length := by
            have := congrArg List.length kk
            rw [List.length_map, List.length_map] at this; exact this
          let kvs : List (Key × V) := ks.zip (ps.map (·.2))
          have ek : kvs.map (·.1) = ks := by
            show (ks.zip (ps.map (·.2))).map Prod.fst = ks
            rw [List.map_fst_zip]; rw [List.length_map]; omega
          have ev : kvs.map (·.2) = ps.map (·.2) := by
            show (ks.zip (ps.map (·.2))).map Prod.snd = _
            rw [List.map_snd_zip]; rw [List.length_map]; omega
          have eps : ps = kvs.map fun kv => (kV kv.1, kv.2) := by
            refine List.ext_getElem? fun i => ?_
            have a1 := congrArg (·[i]?) kk
            have a2 := congrArg (·[i]?) ek
            have a3 := congrArg (·[i]?) ev
            simp only [List.getElem?_map] at a1 a2 a3 ⊢
            cases c1 : ps[i]? with
            | none =>
              rw [c1] at a3
              cases c2 : kvs[i]? with
              | none => rfl
              | some y => rw [c2] at a3; cases a3
            | some x =>
              rw [c1] at a1 a3
              cases c2 : kvs[i]? with
              | none => rw [c2] at a3; cases a3
              | some y =>
                rw [c2] at a2 a3
                rw [← a2] at a1
                simp only [Option.map_some, Option.some.injEq] at a1 a3 ⊢
                exact Prod.ext a1 a3.symm
          refine ⟨hs, kvs, eps, ?_, ?_⟩
          · have := congrArg List.length ek
            rw [List.length_map] at this
            rw [this]; exact hk.2
          · have em : mergeK [] kvs = kvs := by
              rw [mergeK_new (by rw [ek]; exact hk.1) (fun k _ m => by simp at m)]; rfl
            rw [em]
            have nf : ¬ F' p := fun z => (f.new p z).elim np fun w => by rw [upd_same] at w; exact nomatch w.1
            have mn : Mono F' H' (upd H' p (.dK kvs)) := Mono.updN nf hs trivial
            refine post _ _ F' ⟨f.le, fun b ob hb => ?_, fun b hb => ?_⟩ ⟨p, rfl, hp, nf, kvs, upd_same, ?_, ?_⟩
            · have : b ≠ p := fun z => by subst z; rw [hp] at hb; cases hb
              rw [upd_ne this]; exact f.same b ob (by rw [upd_ne this]; exact hb)
            · rcases f.new b hb with z | ⟨z1, z2⟩
              · exact .inl z
              · have : b ≠ p := fun z => by subst z; rw [upd_same] at z1; cases z1
                rw [upd_ne this] at z1
                exact .inr ⟨z1, by rw [upd_ne this]; exact z2⟩
            · rw [e1, ← ek, List.map_map]; rfl
            · rw [ev]; exact g2.mono mn fun _ z => z
        · cases q2
end
end Dn

set_option Elab.async false
set_option linter.all false
set_option maxRecDepth 100000
set_option autoImplicit false
set_option maxHeartbeats 4000000
namespace Dn
open PySem PySem.Spec L2
open PyProof.Rows hiding St

theorem hu64 {k : Nat} {A : Around} (hr : Room k A) : A.units + 64 < cLine := by have := hr.un; omega
theorem hu65 {k : Nat} {A : Around} (hr : Room k A) : A.units + 65 < cLine := by have := hr.un; omega
section
variable {X : Cx} {W : WX} {io G G1 G2 Gn Gl : List Nat} {e a b tg iter elt : Expr} {es ifs : List Expr} {o ro : Bool} {pos p p2 apos : Pos} {st : Stmt} {fa fb : DS → ResS D} {fs : DS → ResS (List D)} {f : DS → Res D}
theorem frz_of {σ : L2.St} {H : Hp} {Q : VK} (h : tX (mdOf X) W io G false fa G1 σ H Q) : tX (mdOf X) W io G true fa G1 σ H Q := by
  obtain ⟨Y, F, δ, sr, post⟩ := h
  refine ⟨Y, F, δ, sr, ?_⟩
  cases q : fa δ with
  | bad => rw [q] at post; exact post
  | ex c fs => rw [q] at post; exact post
  | ok d δ1 =>
    rw [q] at post
    intro v H' F' s sr' g
    obtain ⟨p, e, n0, nf, ow, no⟩ := g
    obtain ⟨ob, ho, mu⟩ := ow.there
    have hH : H' p ≠ none := by rw [ho]; exact fun z => nomatch z
    have up : ∀ {d v}, R (mdOf X) F' H' d v → R (mdOf X) (F'.add p) H' d v := fun h => h.mono (.refl F' H') fun _ z => .inl z
    refine post v H' (F'.add p) (s.trans ⟨fun _ z => .inl z, .refl F' H'⟩) ?_ ?_
    · refine ⟨⟨fun x z => .inl (sr'.hp.le x z), fun x z => z.elim (sr'.hp.new x) fun z => .inr (z ▸ ⟨n0, hH⟩), sr'.hp.same, sr'.hp.there, fun x z => z.elim (sr'.hp.dom x) fun z => z ▸ hH⟩, sr'.len, fun j c h n => ?_, fun j c h m => ?_, sr'.dj, sr'.iol, sr'.ios⟩
      · obtain ⟨v, k1, k2⟩ := sr'.sh j c h n
        exact ⟨v, k1, up k2⟩
      · obtain ⟨b, k1, k2, k3, k4⟩ := sr'.ow j c h m
        exact ⟨b, k1, fun z => z.elim k2 fun z => no (z ▸ ⟨j, c, m, h, k1⟩), k3.mono (.refl F' H') (fun _ z => .inl z) rfl, k4⟩
    · rw [e]; exact OwnAt.frozen (ow.mono (.refl F' H') (fun _ z => .inl z) rfl) (.inr rfl)
section
variable {scope : Scope} {own : List (Str × Nat)} {is : List Nat} {t : D → Option (List (Nat × D))} {fi : DS → Res (List D)} {ft : DS → Res Bool} {fe : DS → Res D} {i : Nat} {x : Str} {py : Pos} {fx : DS → ResS D}
/-- x = [ .. ], the list shared from the start -/
theorem ds_lcF (hx : ∀ σ H Q, tX (mdOf X) W io G true fx G σ H Q → tP (mdOf X) W true (pLc (own.map (·.2)) fi t ft fe) σ H Q) (hc : X.calm = true) (hN : X.N.Nodup) (hy : X.N[i]? = some x) (hyl : X.env.scope.names.lookup x = some .local) (hsw : swapsWith (.ListComp elt [⟨tg, iter, ifs, 0⟩] scope p) (some (.Name x py)) pos.line X.env = pure true)
    (hi : DI X W tg iter fi) (ok : BlkOk X.N X.env.scope scope own)
    (hg : ∀ (s : Shared) (H : Hp) (C : Addr) (cl : List (Str × Addr)) (fp : List Addr), DG (X.blk s H scope (compEnvC scope cl C X.env) fp) tg is t) (ht : ∀ (s : Shared) (H : Hp) (C : Addr) (cl : List (Str × Addr)) (fp : List Addr), DTs (X.blk s H scope (compEnvC scope cl C X.env) fp) W0 ifs ft)
    (he : ∀ (s : Shared) (H : Hp) (C : Addr) (cl : List (Str × Addr)) (fp : List Addr), DP (X.blk s H scope (compEnvC scope cl C X.env) fp) W0 elt false fe) (ni : i ∉ io := by decide) (his : ∀ i ∈ is, i ∈ own.map (·.2) := by decide) (hs : ∀ x, foldedSetIterable iter X.env x = pure x := by intro _; rfl) :
    DSt X W io ro G (.Assign [.Name x py] (.ListComp elt [⟨tg, iter, ifs, 0⟩] scope p) pos) (sSet i fx) (G.filter fun k => k != i) Gl :=
  ⟨fun pins s σ H D I h => (setT (io := io) (G := G) (G1 := G) (W := W) (fa := fx) (ro := ro) (Gl := Gl) (ps_setLc (wi := tPI (mdOf X) W fi) (g := tPG (mdOf X) t) (tt := tPB (mdOf X) W0 ft) (te := tP (mdOf X) W0 false fe) hc hN hy hyl hsw hi ok (fun s H C cl fp => (hg s H C cl fp).pg) ht he hs)
    (fun σ' H' Q h => tLc_of his (hg s H 0 [] []).sl (hx σ' H' Q (frz_of h))) ni).run pins s σ H D I h⟩
end
end
section
variable {P : Program} {w : World} {K : PySem.W.Frag} {mg : Str → Option Value} {base : Heap} {x qual : Str} {st : Stmt} {f : Addr} {fd : FuncData} {N ps : List Str} {k n m : Nat} {o : Bool} {fb : DS → Out}
theorem fn_pureN (Fn : Fun K x qual st f fd) (S : FnScope N ps (defScope st)) (hn : ps.length = n) (hm : N.length = m)
    (hbody : ∀ (cdv : Value) (A : Around) (outer : List Env) (s : Shared) (H : Hp) (E : XK), Room k (A.deeper (envOfC qual (defScope st) s.heap.objs.size f cdv)) → ∃ Gn, DSs (cxF P w K mg base N qual st f cdv A outer s H E) (WF E) [] o [] (defBody st) fb Gn []) :
    FnOk P w K mg base (L2.CX P w) (k + 1) f fd ps (spP ⟨K, mg, w⟩ o (denP o n m fb)) := by
  subst hn hm
  exact fn_pure Fn S hbody
theorem fn_ioN (Fn : Fun K x qual st f fd) (S : FnScope N ps (defScope st)) (hn : ps.length = n + 1) (hm : N.length = m)
    (hbody : ∀ (cdv : Value) (A : Around) (outer : List Env) (s : Shared) (H : Hp) (E : XK), Room k (A.deeper (envOfC qual (defScope st) s.heap.objs.size f cdv)) → ∃ Gn, DSs (cxF P w K mg base N qual st f cdv A outer s H E) (WF E) [0] o [0] (defBody st) fb Gn []) :
    FnOk P w K mg base (L2.CX P w) (k + 1) f fd ps (spIO ⟨K, mg, w⟩ o (denIO o n m fb)) := by
  subst hm
  exact fn_io Fn hn S hbody
end
theorem bt_len : bootBuiltins "len" = some (.builtin "len") := by first | rfl | decide +kernel
theorem bt_abs : bootBuiltins "abs" = some (.builtin "abs") := by first | rfl | decide +kernel
theorem bt_sum : bootBuiltins "sum" = some (.builtin "sum") := by first | rfl | decide +kernel
theorem bt_max : bootBuiltins "max" = some (.builtin "max") := by first | rfl | decide +kernel
theorem bt_min : bootBuiltins "min" = some (.builtin "min") := by first | rfl | decide +kernel
theorem bt_all : bootBuiltins "all" = some (.builtin "all") := by first | rfl | decide +kernel
theorem bt_any : bootBuiltins "any" = some (.builtin "any") := by first | rfl | decide +kernel
theorem bt_isinstance : bootBuiltins "isinstance" = some (.builtin "isinstance") := by first | rfl | decide +kernel
theorem bt_sorted : bootBuiltins "sorted" = some (.builtin "sorted") := by first | rfl | decide +kernel
theorem bt_repr : bootBuiltins "repr" = some (.builtin "repr") := by first | rfl | decide +kernel
theorem bt_callable : bootBuiltins "callable" = some (.builtin "callable") := by first | rfl | decide +kernel
theorem bt_chr : bootBuiltins "chr" = some (.builtin "chr") := by first | rfl | decide +kernel
theorem bt_ord : bootBuiltins "ord" = some (.builtin "ord") := by first | rfl | decide +kernel
theorem bt_int : bootBuiltins "int" = some (.type "int") := by first | rfl | decide +kernel
theorem bt_bool : bootBuiltins "bool" = some (.type "bool") := by first | rfl | decide +kernel
theorem bt_str : bootBuiltins "str" = some (.type "str") := by first | rfl | decide +kernel
theorem bt_tuple : bootBuiltins "tuple" = some (.type "tuple") := by first | rfl | decide +kernel
theorem bt_list : bootBuiltins "list" = some (.type "list") := by first | rfl | decide +kernel
theorem bt_dict : bootBuiltins "dict" = some (.type "dict") := by first | rfl | decide +kernel
theorem bt_set : bootBuiltins "set" = some (.type "set") := by first | rfl | decide +kernel
theorem bt_range : bootBuiltins "range" = some (.type "range") := by first | rfl | decide +kernel
theorem bt_zip : bootBuiltins "zip" = some (.type "zip") := by first | rfl | decide +kernel
theorem bt_enumerate : bootBuiltins "enumerate" = some (.type "enumerate") := by first | rfl | decide +kernel
end Dn

set_option Elab.async false
set_option linter.all false
set_option maxRecDepth 100000
set_option autoImplicit false
set_option maxHeartbeats 4000000
namespace Dn
open PySem PySem.Spec L2
open PyProof.Rows hiding St

/-! ### the end: a law that is handed a list of numbers -/
def spLaw (K : PySem.W.Frag) : Sp := fun vs H Q _ => ∃ (a : Addr) (ns : List Int), vs = [.ref a] ∧ FrL K H a (ns.map V.int) ∧ ns.length ≤ 63 ∧ ∀ H', Q (.bl true) H'
theorem rs_ints {M : Md} {F : Fz} {H : Hp} : ∀ ns : List Int, Rs M F H (ns.map D.int) (ns.map V.int)
  | [] => rfl
  | n :: r => ⟨_, _, rfl, rfl, rs_ints r⟩
theorem law_fn {P : Program} {w : World} {K : PySem.W.Frag} {mg : Str → Option Value} {base : Heap} {k : Nat} {f : Addr} {fd : FuncData} {ps : List Str} {den : List D → Res D} (h : FnOk P w K mg base (L2.CX P w) k f fd ps (spP ⟨K, mg, w⟩ false den))
    (hd : ∀ ns : List Int, ns.length ≤ 63 → den [.fl (ns.map .int)] = .ok (.bl true)) : FnOk P w K mg base (L2.CX P w) k f fd ps (spLaw K) :=
  h.imp fun vs H Q E ⟨a, ns, e, fr, hl, q⟩ => ⟨fun _ => False, [.fl (ns.map .int)], fun _ z => z.elim, by rw [e]; exact ⟨_, [], rfl, ⟨a, _, rfl, fr, rs_ints ns⟩, rfl⟩, by
    rw [hd ns hl]
    intro v H' F' fr g
    cases (show v = .bl true from g)
    exact q H'⟩
theorem fr_of {K : PySem.W.Frag} {H : Hp} {a : Addr} {vs : List V} (o : Only H) (s : SqL K H a vs) : FrL K H a vs := by
  rcases s with (s | s) | s
  · rcases o a with z | ⟨o, xs, z⟩
    · rw [s] at z; cases z
    · rw [s] at z; cases z
  · exact .inl s
  · exact .inr s
theorem cx_no (P : Program) (w : World) (H : Hp) (s : Shared) (e : Value) (s' : Shared) : L2.CX P w [] H s (fun _ _ _ => False) e s' → False := fun ⟨_, _, _, _, _, _, _, _, _, _, _, _, h⟩ => h
theorem law_end {K : PySem.W.Frag} (H : Hp) (a : Addr) (ns : List Int) (hl : ns.length ≤ 63) (o : Only H) (s : SqL K H a (ns.map V.int)) : spLaw K [.ref a] H (fun v _ => v = .bl true) fun _ _ _ => False := ⟨a, ns, rfl, fr_of o s, hl, fun _ => rfl⟩
/-! a written dict with text keys -/
theorem kd_mk {M : Md} {a : Addr} {es : List DictEntry} {n : Nat} {ks : List D} {vs : List V} (l : M.K.lookup a = some ⟨.type "dict", none, .dict es.toArray n, #[]⟩) (k : PySem.W.KeysLit M.w.params es) (s : (a == sysModules) = false)
    (hk : Paired (fun (e : DictEntry) d => ∃ x t, e.key = .str x t ∧ d = .str x) es ks) (hv : Vals vs (es.map (·.val))) : KD M a ks vs := ⟨es.toArray, n, l, by rwa [List.toList_toArray], s, by rwa [List.toList_toArray], by rwa [List.toList_toArray]⟩
end Dn

set_option Elab.async false
set_option linter.all false
set_option maxRecDepth 100000
set_option autoImplicit false
set_option maxHeartbeats 4000000
/-! how the plain functions compute: rows for simp -/
namespace Dn
open PySem PySem.Spec L2
open PyProof.Rows hiding St
section
variable {α β : Type} (a : α) (k : α → Res β) (k2 : α → DS → ResS β) (c : Str) (fs : List D) (δ : DS) (i : Nat) (d x y : D) (f g h : DS → Res D) (g1 : D → Option D) (g2 g3 : D → D → Option D) (gl : List D → Option D) (ga : DS → Res (List D)) (t u : DS → Res Bool) (G : List Nat)
  (xf xg : DS → ResS D) (xa : DS → ResS (List D)) (xt : DS → ResS Bool) (s r : DS → Out) (den : List D → Res D) (dio : List D → Res (D × D))
@[simp] theorem bind_ok : (Res.ok a).bind k = k a := rfl
@[simp] theorem bind_ex : (Res.ex c fs : Res α).bind k = .ex c fs := rfl
@[simp] theorem bind_bad : (Res.bad : Res α).bind k = .bad := rfl
@[simp] theorem sbind_ok : (ResS.ok a δ).bind k2 = k2 a δ := rfl
@[simp] theorem sbind_ex : (ResS.ex c fs : ResS α).bind k2 = .ex c fs := rfl
@[simp] theorem sbind_bad : (ResS.bad : ResS α).bind k2 = .bad := rfl
@[simp] theorem resO_some : resO (some a) = Res.ok a := rfl
@[simp] theorem resO_none : (resO none : Res α) = Res.bad := rfl
@[simp] theorem ofO_some : ofO (some a) δ = ResS.ok a δ := rfl
@[simp] theorem ofO_none : (ofO none δ : ResS α) = ResS.bad := rfl
@[simp] theorem pC_e : pC d δ = .ok d := rfl
@[simp] theorem pVar_e : pVar i δ = match δ[i]? with
  | some (some d) => .ok d
  | _ => .bad := rfl
@[simp] theorem p2_e : p2 g2 f g δ = (f δ).bind fun x => (g δ).bind fun y => resO (g2 x y) := rfl
@[simp] theorem pB_e : pB g2 f g δ = (f δ).bind fun x => (g δ).bind fun y => match g2 x y with
  | some (.bl b) => .ok b
  | _ => .bad := rfl
@[simp] theorem pChain_e : pChain g2 g3 f g h δ = (f δ).bind fun x => (g δ).bind fun y => match g2 x y with
  | some (.bl true) => (h δ).bind fun z => resO (g3 y z)
  | some (.bl false) => .ok (.bl false)
  | _ => .bad := rfl
@[simp] theorem pAnd_e : pAnd f g δ = (f δ).bind fun x => match x with
  | .bl true => g δ
  | .bl false => .ok (.bl false)
  | _ => .bad := rfl
@[simp] theorem pOr_e : pOr f g δ = (f δ).bind fun x => match x with
  | .bl false => g δ
  | .bl true => .ok (.bl true)
  | _ => .bad := rfl
@[simp] theorem pNot_e : pNot f δ = (f δ).bind fun x => match x with
  | .bl b => .ok (.bl (!b))
  | _ => .bad := rfl
@[simp] theorem bAnd_e : bAnd t u δ = (t δ).bind fun x => if x then u δ else .ok false := rfl
@[simp] theorem bOr_e : bOr t u δ = (t δ).bind fun x => if x then .ok true else u δ := rfl
@[simp] theorem bNot_e : bNot t δ = (t δ).bind fun x => .ok (!x) := rfl
@[simp] theorem bYes_e : bYes δ = .ok true := rfl
@[simp] theorem pIf_e : pIf t f g δ = (t δ).bind fun x => if x then f δ else g δ := rfl
@[simp] theorem pT_e : pT f δ = (f δ).bind fun x => resO (truD x) := rfl
@[simp] theorem pU_e : pU g1 f δ = (f δ).bind fun x => resO (g1 x) := rfl
@[simp] theorem p1_e : p1 g1 f δ = (f δ).bind fun x => resO (g1 x) := rfl
@[simp] theorem aNil_e : aNil δ = .ok [] := rfl
@[simp] theorem aCons_e : aCons f ga δ = (f δ).bind fun x => (ga δ).bind fun xs => .ok (x :: xs) := rfl
@[simp] theorem pTup_e : pTup ga δ = (ga δ).bind tupD := rfl
@[simp] theorem pLst_e : pLst ga δ = (ga δ).bind lstD := rfl
@[simp] theorem pCB_e : pCB gl ga δ = (ga δ).bind fun xs => resO (gl xs) := rfl
@[simp] theorem pCall_e : pCall den ga δ = (ga δ).bind den := rfl
@[simp] theorem pPart_none : pNoPart δ = .ok none := rfl
@[simp] theorem pPart_e : pPart f δ = (f δ).bind fun x => match x with
  | .int i => .ok (some i)
  | _ => .bad := rfl
@[simp] theorem iW_e : iW f δ = (f δ).bind fun x => resO (walkD x) := rfl
@[simp] theorem iR_e (gi : List D → Option (List D)) : iR gi ga δ = (ga δ).bind fun xs => resO (gi xs) := rfl
@[simp] theorem pM_e (T : String) (gm : D → List D → Option D) : pM T gm f ga δ = (f δ).bind fun d => if recvOk T d = true then (ga δ).bind fun ds => resO (gm d ds) else .bad := rfl
@[simp] theorem pSl_e (gs : D → Option Int → Option Int → Option D) (fl fh : DS → Res (Option Int)) : pSl gs f fl fh δ = (f δ).bind fun x => (fl δ).bind fun l => (fh δ).bind fun h => resO (gs x l h) := rfl
@[simp] theorem pDisp_e (fps : List PF) : pDisp fps δ = (pPairs fps δ).bind fun p => resO (dispD p) := rfl
@[simp] theorem pPairs_nil : pPairs [] δ = .ok ([], []) := rfl
@[simp] theorem pPairs_cons (fps : List PF) : pPairs ((f, g) :: fps) δ = (f δ).bind fun k => (g δ).bind fun v => (pPairs fps δ).bind fun p => .ok (k :: p.1, v :: p.2) := rfl
@[simp] theorem pLc_e (vs : List Nat) (fi : DS → Res (List D)) (tt : D → Option (List (Nat × D))) : pLc vs fi tt t f δ = (fi δ).bind fun ds => match lcL (lcT vs tt t f δ) ds with
  | .ok ys => if ys.length ≤ LN then .ok (.lst ys) else .bad
  | _ => .bad := rfl
@[simp] theorem setD_e : setD i d = some [(i, d)] := rfl
@[simp] theorem gsNil_e : gsNil [] = some [] := rfl
@[simp] theorem gsCons_e (tt : D → Option (List (Nat × D))) (uu : List D → Option (List (Nat × D))) (ds : List D) : gsCons tt uu (d :: ds) = (tt d).bind fun a => (uu ds).bind fun b => some (a ++ b) := rfl
@[simp] theorem tupN_e (n : Nat) (uu : List D → Option (List (Nat × D))) (ds : List D) : tupN n uu (.tup ds) = if ds.length = n then uu ds else none := rfl
@[simp] theorem putAll_nil {α : Type} (l : List (Option α)) : putAll l [] = l := rfl
@[simp] theorem putAll_cons {α : Type} (l : List (Option α)) (p : Nat × α) (ps : List (Nat × α)) : putAll l (p :: ps) = putAll (l.set p.1 (some p.2)) ps := rfl
@[simp] theorem wipeD_nil : wipeD δ [] = δ := rfl
@[simp] theorem wipeD_cons (vs : List Nat) : wipeD δ (i :: vs) = (wipeD δ vs).set i none := rfl
@[simp] theorem xM_e : xM G f δ = match f (wipeD δ G) with
  | .ok d => .ok d δ
  | .ex c fs => .ex c fs
  | .bad => .bad := rfl
@[simp] theorem xZ_e : xZ f δ = match f δ with
  | .ok d => if clean d = true then .ok d δ else .bad
  | .ex c fs => if fs = [] then .ex c fs else .bad
  | .bad => .bad := rfl
@[simp] theorem xZo_e : xZo f δ = match f δ with
  | .ok (.lst ds) => if cleans ds = true then .ok (.lst ds) δ else .bad
  | _ => .bad := rfl
@[simp] theorem bZ_e : bZ t δ = match t δ with
  | .ok b => .ok b δ
  | .ex c fs => if fs = [] then .ex c fs else .bad
  | .bad => .bad := rfl
@[simp] theorem x2_e : x2 g2 xf xg δ = (xf δ).bind fun x δ1 => (xg δ1).bind fun y δ2 => ofO (g2 x y) δ2 := rfl
@[simp] theorem xB_e : xB xf δ = (xf δ).bind fun x δ1 => match x with
  | .bl b => .ok b δ1
  | _ => .bad := rfl
@[simp] theorem xbNot_e : xbNot xt δ = (xt δ).bind fun b δ1 => .ok (!b) δ1 := rfl
@[simp] theorem xIf_e : xIf xt xf xg δ = (xt δ).bind fun x δ1 => if x then xf δ1 else xg δ1 := rfl
@[simp] theorem xNil_e : xNil δ = .ok [] δ := rfl
@[simp] theorem xCons_e : xCons xf xa δ = (xf δ).bind fun x δ1 => (xa δ1).bind fun xs δ2 => .ok (x :: xs) δ2 := rfl
@[simp] theorem xTup_e : xTup xa δ = (xa δ).bind fun xs δ1 => if xs.length ≤ LN then .ok (.tup xs) δ1 else .bad := rfl
@[simp] theorem xLst_e : xLst xa δ = (xa δ).bind fun xs δ1 => if xs.length ≤ LN then .ok (.lst xs) δ1 else .bad := rfl
@[simp] theorem xCB_e : xCB gl xa δ = (xa δ).bind fun xs δ1 => ofO (gl xs) δ1 := rfl
@[simp] theorem xCall_e : xCall den xa δ = (xa δ).bind fun xs δ1 => match den xs with
  | .ok d => .ok d δ1
  | .ex c fs => .ex c fs
  | .bad => .bad := rfl
@[simp] theorem xIO_e : xIO i dio xa δ = match δ[i]? with
  | some (some _) => (xa δ).bind fun ds δ1 => (match δ1[i]? with
    | some (some h) => (match dio (h :: ds) with
      | .ok p => .ok p.1 (δ1.set i (some p.2))
      | .ex c fs => .ex c fs
      | .bad => .bad)
    | _ => .bad)
  | _ => .bad := rfl
@[simp] theorem xWk_e : xWk xf δ = (xf δ).bind fun x δ1 => ofO (walkD x) δ1 := rfl
@[simp] theorem xR_e (gi : List D → Option (List D)) : xR gi xa δ = (xa δ).bind fun xs δ1 => ofO (gi xs) δ1 := rfl
@[simp] theorem sNil_e : sNil δ = .nx δ := rfl
@[simp] theorem sSeq_e : sSeq s r δ = match s δ with
  | .nx δ1 => r δ1
  | r => r := by unfold sSeq; cases s δ <;> rfl
@[simp] theorem seqT_ok (v : D) (k : D → DS → Out) : seqT (.ok v δ) k = k v δ := rfl
@[simp] theorem seqT_ex (k : D → DS → Out) : seqT (.ex c fs) k = .ex c fs := rfl
@[simp] theorem seqT_bad (k : D → DS → Out) : seqT .bad k = .bad := rfl
@[simp] theorem seqTB_ok (v : Bool) (k : Bool → DS → Out) : seqTB (.ok v δ) k = k v δ := rfl
@[simp] theorem seqTB_ex (k : Bool → DS → Out) : seqTB (.ex c fs) k = .ex c fs := rfl
@[simp] theorem seqTB_bad (k : Bool → DS → Out) : seqTB .bad k = .bad := rfl
@[simp] theorem seqTL_ok (v : List D) (k : List D → DS → Out) : seqTL (.ok v δ) k = k v δ := rfl
@[simp] theorem seqTL_ex (k : List D → DS → Out) : seqTL (.ex c fs) k = .ex c fs := rfl
@[simp] theorem seqTL_bad (k : List D → DS → Out) : seqTL .bad k = .bad := rfl
@[simp] theorem sSet_e : sSet i xf δ = seqT (xf δ) fun d δ1 => .nx (δ1.set i (some d)) := rfl
@[simp] theorem sRet_e : sRet xf δ = seqT (xf δ) fun d δ1 => .rt d δ1 := rfl
@[simp] theorem sRetN_e : sRetN δ = .rt .non δ := rfl
@[simp] theorem sRetOwn_e : sRetOwn i δ = match δ[i]? with
  | some (some d) => .rt d δ
  | _ => .bad := rfl
@[simp] theorem xFrz_e : xFrz i δ = match δ[i]? with
  | some (some d) => .ok d δ
  | _ => .bad := rfl
@[simp] theorem sExpr_e : sExpr xf δ = seqT (xf δ) fun _ δ1 => .nx δ1 := rfl
@[simp] theorem sIf_e : sIf xt s r δ = seqTB (xt δ) fun b δ1 => if b then s δ1 else r δ1 := rfl
@[simp] theorem sPut_e : sPut i xf xg δ = seqT (xf δ) fun d δ1 => match δ1[i]? with
  | some (some (.lst _)) => seqT (xg δ1) fun k δ2 => (match k, δ2[i]? with
    | .int k, some (some (.lst xs)) => (match ixN xs.length k with
      | some j => .nx (δ2.set i (some (.lst (xs.set j d))))
      | none => .bad)
    | _, _ => .bad)
  | _ => .bad := rfl
@[simp] theorem sMth_e (gm : List D → List D → Option (List D × D)) : sMth i gm xa δ = match δ[i]? with
  | some (some (.lst _)) => seqTL (xa δ) fun ds δ1 => (match δ1[i]? with
    | some (some (.lst xs)) => (match gm xs ds with
      | some r => .nx (δ1.set i (some (.lst r.1)))
      | none => .bad)
    | _ => .bad)
  | _ => .bad := rfl
@[simp] theorem sPar_e (j : Nat) : sPar i j xa δ = seqTL (xa δ) fun ds δ1 => match ds with
  | [d, e] => .nx ((δ1.set i (some d)).set j (some e))
  | _ => .bad := rfl
@[simp] theorem sParO_e (j : Nat) : sParO i j xf xg δ = match xOwn2 xf xg δ with
  | .ok p δ1 => .nx ((δ1.set i (some p.1)).set j (some p.2))
  | .ex c fs => .ex c fs
  | .bad => .bad := rfl
@[simp] theorem xOwn2_e : xOwn2 xf xg δ = (xf δ).bind fun d δ1 => (xg δ1).bind fun e δ2 => .ok (d, e) δ2 := rfl
@[simp] theorem sTg_e (tt : D → Option (List (Nat × D))) : sTg tt xf δ = seqT (xf δ) fun d δ1 => match tt d with
  | some as => .nx (putAll δ1 as)
  | none => .bad := rfl
@[simp] theorem sBreak_e : sBreak δ = .bk δ := rfl
@[simp] theorem sCont_e : sCont δ = .ct δ := rfl
@[simp] theorem sFor_e (fi : DS → ResS (List D)) (tt : D → Option (List (Nat × D))) : sFor fi tt s δ = seqTL (fi δ) fun ds δ1 => forL tt s ds δ1 := rfl
end
section
variable (i j : Int) (a b : Bool) (x y : Str) (xs ys : List D) (d : D)
@[simp] theorem addD_ii : addD (.int i) (.int j) = some (.int (i + j)) := rfl
@[simp] theorem subD_ii : subD (.int i) (.int j) = some (.int (i - j)) := rfl
@[simp] theorem ltD_ii : ltD (.int i) (.int j) = some (.bl (decide (i < j))) := rfl
@[simp] theorem leD_ii : leD (.int i) (.int j) = some (.bl (decide (i ≤ j))) := rfl
@[simp] theorem gtD_ii : gtD (.int i) (.int j) = some (.bl (decide (j < i))) := rfl
@[simp] theorem geD_ii : geD (.int i) (.int j) = some (.bl (decide (j ≤ i))) := rfl
@[simp] theorem addD_ss : addD (.str x) (.str y) = if x.length + y.length ≤ LN then some (.str (x ++ y)) else none := rfl
@[simp] theorem addD_tt : addD (.tup xs) (.tup ys) = if xs.length + ys.length ≤ LN then some (.tup (xs ++ ys)) else none := rfl
@[simp] theorem addD_ll : addD (.lst xs) (.lst ys) = if xs.length + ys.length ≤ LN then some (.lst (xs ++ ys)) else none := rfl
theorem mulD_ii (h : (-(2 ^ 64) < i ∧ i < 2 ^ 64) ∨ (-(2 ^ 64) < j ∧ j < 2 ^ 64)) : mulD (.int i) (.int j) = some (.int (i * j)) := if_pos h
theorem modD_ii (h : j ≠ 0) : modD (.int i) (.int j) = some (.int (i.fmod j)) := if_pos (decide_eq_true h)
theorem fdivD_ii (h : j ≠ 0 ∧ j.natAbs < 1073741824) : fdivD (.int i) (.int j) = some (.int (i.fdiv j)) := if_pos (decide_eq_true h)
@[simp] theorem eqD_ii : eqD (.int i) (.int j) = some (.bl (decide (i = j))) := by
  show some (D.bl (PyData.eqv (.int i) (.int j))) = _
  first | (congr 2; done) | (congr 2; simp [PyData.eqv])
@[simp] theorem neD_ii : neD (.int i) (.int j) = some (.bl (!decide (i = j))) := by
  show some (D.bl (!PyData.eqv (.int i) (.int j))) = _
  first | (congr 2; done) | (congr 2; simp [PyData.eqv])
@[simp] theorem neD_bb : neD (.bl a) (.bl b) = some (.bl (a != b)) := by
  cases a <;> cases b <;> rfl
@[simp] theorem eqD_bb : eqD (.bl a) (.bl b) = some (.bl (a == b)) := by
  cases a <;> cases b <;> rfl
@[simp] theorem lenD_l : lenD [.lst xs] = some (.int xs.length) := rfl
@[simp] theorem lenD_t : lenD [.tup xs] = some (.int xs.length) := rfl
@[simp] theorem lenD_f : lenD [.fl xs] = some (.int xs.length) := rfl
@[simp] theorem lenD_s : lenD [.str x] = if x.length ≤ LN then some (.int x.length) else none := rfl
@[simp] theorem intD_i : intD [.int i] = some (.int i) := rfl
@[simp] theorem absD_i : absD [.int i] = some (.int (if i < 0 then -i else i)) := rfl
@[simp] theorem ixD_l : ixD (.lst xs) (.int i) = atI xs i := rfl
@[simp] theorem ixD_t : ixD (.tup xs) (.int i) = atI xs i := rfl
@[simp] theorem clean_i : clean (.int i) = true := rfl
@[simp] theorem clean_s : clean (.str x) = true := rfl
@[simp] theorem clean_b : clean (.bl a) = true := rfl
@[simp] theorem clean_n : clean .non = true := rfl
@[simp] theorem clean_t : clean (.tup xs) = cleans xs := rfl
@[simp] theorem cleans_n : cleans [] = true := rfl
@[simp] theorem cleans_c : cleans (d :: xs) = (clean d && cleans xs) := rfl
@[simp] theorem tupD_e : tupD xs = if xs.length ≤ LN then .ok (.tup xs) else .bad := rfl
@[simp] theorem lstD_e : lstD xs = if xs.length ≤ LN then .ok (.lst xs) else .bad := rfl
@[simp] theorem truD_b : truD (.bl a) = some a := rfl
@[simp] theorem walkD_l : walkD (.lst xs) = some xs := rfl
@[simp] theorem walkD_t : walkD (.tup xs) = some xs := rfl
@[simp] theorem tupleD_l : tupleD [.lst xs] = some (.tup xs) := rfl
@[simp] theorem tupleD_t : tupleD [.tup xs] = some (.tup xs) := rfl
@[simp] theorem slD_l (lo hi : Option Int) : slD (.lst xs) lo hi = some (.lst (cutL xs lo hi)) := rfl
@[simp] theorem slD_f (lo hi : Option Int) : slD (.fl xs) lo hi = some (.lst (cutL xs lo hi)) := rfl
@[simp] theorem slD_t (lo hi : Option Int) : slD (.tup xs) lo hi = some (.tup (cutL xs lo hi)) := rfl
@[simp] theorem negD_i : negD (.int i) = some (.int (-i)) := rfl
end
end Dn

set_option Elab.async false
set_option linter.all false
set_option maxRecDepth 100000
set_option autoImplicit false
set_option maxHeartbeats 4000000
/-! the helpers that all laws share, as plain functions -/
namespace Dn
open PySem PySem.Spec L2
open PyProof.Rows hiding St
noncomputable def body__law_hand : DS → Out := sSeq (sSet 1 (xM [] (pLc [2] (iW (pSl slD (pVar 0) (pNoPart) (pPart (pC (.int 63))))) (setD 2) (bYes) (pCB absD (aCons (pCB intD (aCons (pVar 2) (aNil))) (aNil)))))) (sSeq (sRet (xM [] (pLst (aCons (pVar 1) (aCons (pC (.int 0)) (aCons (pC (.int 0)) (aCons (p2 addD (pC (.int 97)) (p2 mulD (pC (.int 5)) (pCB lenD (aCons (pVar 1) (aNil))))) (aCons (pC (.int 0)) (aNil))))))))) (sNil))
noncomputable def den__law_hand : List D → Res D := denP true 1 3 body__law_hand
noncomputable def q__law_draw_5 : DS → Out := sIf (bZ (pB geD (pVar 2) (p2 powD (pC (.int 10)) (pC (.int 18))))) (sSeq (sPut 0 (xM [0] (pVar 2)) (xM [0] (pC (.int 2)))) (sNil)) (sNil)
noncomputable def q__law_draw_1 : DS → Out := sIf (bZ (bAnd (pB eqD (p2 ixD (pVar 0) (pC (.int 2))) (pC (.int 0))) (pB ltD (p2 ixD (pVar 0) (pC (.int 1))) (pCB lenD (aCons (p2 ixD (pVar 0) (pC (.int 0))) (aNil)))))) (sSeq (sSet 2 (xZ (p2 ixD (p2 ixD (pVar 0) (pC (.int 0))) (p2 ixD (pVar 0) (pC (.int 1)))))) (sSeq (sPut 0 (xZ (p2 addD (p2 ixD (pVar 0) (pC (.int 1))) (pC (.int 1)))) (xM [0] (pC (.int 1)))) (sSeq (sPut 0 (xZ (p2 modD (pCB intD (aCons (p2 addD (p2 addD (p2 mulD (p2 ixD (pVar 0) (pC (.int 3))) (pC (.int 48271))) (pVar 2)) (pC (.int 31))) (aNil))) (pC (.int 2147483647)))) (xM [0] (pC (.int 3)))) (sSeq (q__law_draw_5) (sNil))))) (sNil)
noncomputable def q__law_draw_7 : DS → Out := sIf (bZ (pB gtD (p2 ixD (pVar 0) (pC (.int 2))) (pC (.int 0)))) (sSeq (sSet 3 (xZ (p2 modD (pCB intD (aCons (p2 ixD (pVar 0) (pC (.int 2))) (aNil))) (pVar 1)))) (sSeq (sPut 0 (xZ (p2 fdivD (p2 ixD (pVar 0) (pC (.int 2))) (pVar 1))) (xM [0] (pC (.int 2)))) (sSeq (sRet (xM [0] (pVar 3))) (sNil)))) (sNil)
noncomputable def body__law_draw : DS → Out := sSeq (q__law_draw_1) (sSeq (q__law_draw_7) (sSeq (sPut 0 (xZ (p2 addD (p2 ixD (pVar 0) (pC (.int 4))) (pC (.int 1)))) (xM [0] (pC (.int 4)))) (sSeq (sSet 4 (xZ (p2 modD (pCB intD (aCons (p2 mulD (pCB intD (aCons (p2 addD (p2 ixD (pVar 0) (pC (.int 3))) (p2 mulD (pC (.int 6151)) (p2 ixD (pVar 0) (pC (.int 4))))) (aNil))) (pC (.int 40692))) (aNil))) (pC (.int 2147483399))))) (sSeq (sSet 4 (xM [0] (p2 modD (pCB intD (aCons (p2 mulD (pVar 4) (p2 addD (p2 fdivD (pVar 4) (pC (.int 1223))) (pC (.int 52027)))) (aNil))) (pC (.int 2147483629))))) (sSeq (sSet 4 (xM [0] (p2 modD (pCB intD (aCons (p2 mulD (pVar 4) (p2 addD (p2 fdivD (pVar 4) (pC (.int 2671))) (pC (.int 69621)))) (aNil))) (pC (.int 2147483647))))) (sSeq (sRet (xM [0] (p2 modD (pCB intD (aCons (p2 fdivD (pVar 4) (pC (.int 32))) (aNil))) (pVar 1)))) (sNil)))))))
noncomputable def den__law_draw : List D → Res (D × D) := denIO false 1 5 body__law_draw
noncomputable def q__law_is_2 (den : List D → Res D) : DS → Out := sIf (bZ (bOr (pB neD (pCB isi1D (aCons (pVar 0) (aCons (pC (.ty "tuple")) (aNil)))) (pCB isi1D (aCons (pVar 1) (aCons (pC (.ty "tuple")) (aNil))))) (bNot (pT (p1 (isiTD ["tuple", "list"]) (pVar 0)))))) (sSeq (sRet (xM [] (pC (.bl false)))) (sNil)) (sNil)
noncomputable def q__law_is_1 (den : List D → Res D) : DS → Out := sIf (bZ (pT (p1 (isiTD ["tuple", "list"]) (pVar 1)))) (sSeq ((q__law_is_2 den)) (sSeq (sRet (xM [] (pAnd (p2 eqD (pCB lenD (aCons (pVar 0) (aNil))) (pCB lenD (aCons (pVar 1) (aNil)))) (pCB allD (aCons (pLc [2, 3] (iR zipD (aCons (pVar 0) (aCons (pVar 1) (aNil)))) (tupN 2 (gsCons (setD 2) (gsCons (setD 3) (gsNil)))) (bYes) (pCall (den) (aCons (pVar 2) (aCons (pVar 3) (aNil))))) (aNil)))))) (sNil))) (sNil)
noncomputable def q__law_is_6 (den : List D → Res D) : DS → Out := sIf (bZ (bOr (bNot (pT (pCB isi1D (aCons (pVar 0) (aCons (pC (.ty "dict")) (aNil)))))) (pB neD (pCB lenD (aCons (pVar 0) (aNil))) (pCB lenD (aCons (pVar 1) (aNil)))))) (sSeq (sRet (xM [] (pC (.bl false)))) (sNil)) (sNil)
noncomputable def q__law_is_5 (den : List D → Res D) : DS → Out := sIf (bZ (pT (pCB isi1D (aCons (pVar 1) (aCons (pC (.ty "dict")) (aNil)))))) (sSeq ((q__law_is_6 den)) (sSeq (sRet (xM [] (pCB allD (aCons (pLc [4] (iW (pVar 1)) (setD 4) (bYes) (pAnd (p2 inD (pVar 4) (pVar 0)) (pCall (den) (aCons (p2 ixD (pVar 0) (pVar 4)) (aCons (p2 ixD (pVar 1) (pVar 4)) (aNil)))))) (aNil))))) (sNil))) (sNil)
noncomputable def q__law_is_9 (den : List D → Res D) : DS → Out := sIf (bZ (bOr (pT (pCB isi1D (aCons (pVar 1) (aCons (pC (.ty "str")) (aNil))))) (pB isD (pVar 1) (pC .non)))) (sSeq (sRet (xM [] (pAnd (p2 eqD (pCB isi1D (aCons (pVar 0) (aCons (pC (.ty "str")) (aNil)))) (pCB isi1D (aCons (pVar 1) (aCons (pC (.ty "str")) (aNil))))) (p2 eqD (pVar 0) (pVar 1))))) (sNil)) (sNil)
noncomputable def body__law_is (den : List D → Res D) : DS → Out := sSeq ((q__law_is_1 den)) (sSeq ((q__law_is_5 den)) (sSeq ((q__law_is_9 den)) (sSeq (sRet (xM [] (pAnd (pCB isi1D (aCons (pVar 0) (aCons (pC (.ty "int")) (aNil)))) (pAnd (p2 eqD (pCB isi1D (aCons (pVar 0) (aCons (pC (.ty "bool")) (aNil)))) (pCB isi1D (aCons (pVar 1) (aCons (pC (.ty "bool")) (aNil))))) (p2 eqD (pVar 0) (pVar 1)))))) (sNil))))
noncomputable def den__law_is : Nat → List D → Res D
  | 0 => denP false 2 5 fun _ => .bad
  | n + 1 => denP false 2 5 (body__law_is (den__law_is n))
/-! the drawn numbers -/
def hnd (cs : List Int) (p b m c : Int) : D := .lst [.lst (cs.map .int), .int p, .int b, .int m, .int c]
theorem at5 (a b c d e : D) : atI [a, b, c, d, e] 0 = some a ∧ atI [a, b, c, d, e] 1 = some b ∧ atI [a, b, c, d, e] 2 = some c ∧ atI [a, b, c, d, e] 3 = some d ∧ atI [a, b, c, d, e] 4 = some e := ⟨rfl, rfl, rfl, rfl, rfl⟩
theorem ix5 : ixN 5 0 = some 0 ∧ ixN 5 1 = some 1 ∧ ixN 5 2 = some 2 ∧ ixN 5 3 = some 3 ∧ ixN 5 4 = some 4 := ⟨rfl, rfl, rfl, rfl, rfl⟩
theorem at_ints {cs : List Int} {p : Int} (h0 : 0 ≤ p) (h : p < cs.length) : ∃ v, v ∈ cs ∧ atI (cs.map D.int) p = some (.int v) := by
  have hl : p.toNat < cs.length := by omega
  refine ⟨cs[p.toNat], List.getElem_mem hl, ?_⟩
  unfold atI ixN
  rw [if_pos h0, if_pos (by rw [List.length_map]; exact h)]
  show (cs.map D.int)[p.toNat]? = _
  rw [List.getElem?_map, List.getElem?_eq_getElem hl]; rfl
theorem pow18 : powD (.int 10) (.int 18) = some (.int 1000000000000000000) := by decide
/-- the second part: from here on the figure is made -/
theorem draw_2 (cs : List Int) (p b m c many : Int) (y : Option D) (h0 : 0 < many) (h1 : many < 1073741824) (hb : 0 < b) :
    q__law_draw_7 [some (hnd cs p b m c), some (.int many), y, none, none] = .rt (.int (b.fmod many)) [some (hnd cs p (b.fdiv many) m c), some (.int many), y, some (.int (b.fmod many)), none] := by
  have e1 : modD (.int b) (.int many) = some (.int (b.fmod many)) := modD_ii _ _ (by omega)
  have e2 : fdivD (.int b) (.int many) = some (.int (b.fdiv many)) := fdivD_ii _ _ (by omega)
  unfold q__law_draw_7 hnd
  simp [at5, ix5, hb, e1, e2]
theorem draw_2n (cs : List Int) (p b m c many : Int) (y : Option D) (hb : ¬ 0 < b) :
    q__law_draw_7 [some (hnd cs p b m c), some (.int many), y, none, none] = .nx [some (hnd cs p b m c), some (.int many), y, none, none] := by
  unfold q__law_draw_7 hnd
  simp [at5, ix5, hb]

/-- the first part: the next cell is taken in -/
theorem draw_1 (cs : List Int) (p b m c many : Int) (hc : ∀ v ∈ cs, 0 ≤ v) (hp : 0 ≤ p) (hb : 0 ≤ b) :
    ∃ p' b' m' y, 0 ≤ p' ∧ 0 ≤ b' ∧ q__law_draw_1 [some (hnd cs p b m c), some (.int many), none, none, none] = .nx [some (hnd cs p' b' m' c), some (.int many), y, none, none] := by
  by_cases q : b = 0 ∧ p < cs.length
  · obtain ⟨rfl, hl⟩ := q
    obtain ⟨v, hv, ev⟩ := at_ints hp hl
    have e1 : mulD (.int m) (.int 48271) = some (.int (m * 48271)) := mulD_ii _ _ (.inr (by omega))
    have e2 : modD (.int (m * 48271 + v + 31)) (.int 2147483647) = some (.int ((m * 48271 + v + 31).fmod 2147483647)) := modD_ii _ _ (by omega)
    by_cases big : 1000000000000000000 ≤ v
    · refine ⟨p + 1, v, (m * 48271 + v + 31).fmod 2147483647, some (.int v), by omega, hc v hv, ?_⟩
      unfold q__law_draw_1 q__law_draw_5 hnd
      simp [at5, ix5, hl, ev, e1, e2, pow18, big]
    · refine ⟨p + 1, 0, (m * 48271 + v + 31).fmod 2147483647, some (.int v), by omega, by omega, ?_⟩
      unfold q__law_draw_1 q__law_draw_5 hnd
      simp [at5, ix5, hl, ev, e1, e2, pow18, big]
  · refine ⟨p, b, m, none, hp, hb, ?_⟩
    unfold q__law_draw_1 hnd
    by_cases q1 : b = 0
    · subst q1
      have q2 : ¬ p < cs.length := fun z => q ⟨rfl, z⟩
      simp [at5, ix5, q2]
    · simp [at5, ix5, q1]
theorem fmod_pos (a b : Int) (h : 0 < b) : 0 ≤ a.fmod b ∧ a.fmod b < b := ⟨Int.fmod_nonneg_of_pos a h, Int.fmod_lt_of_pos a h⟩
/-- a hand -/
def HandOk (d : D) : Prop := ∃ cs p b m c, d = hnd cs p b m c ∧ (∀ v ∈ cs, 0 ≤ v) ∧ 0 ≤ p ∧ 0 ≤ b
theorem draw_ok {h : D} {many : Int} (ho : HandOk h) (h0 : 0 < many) (h1 : many < 1073741824) : ∃ v h', den__law_draw [h, .int many] = .ok (.int v, h') ∧ 0 ≤ v ∧ v < many ∧ HandOk h' := by
  obtain ⟨cs, p, b, m, c, rfl, hc, hp, hb⟩ := ho
  obtain ⟨p', b', m', y, hp', hb', e⟩ := draw_1 cs p b m c many hc hp hb
  have run : den__law_draw [hnd cs p b m c, .int many] = (match body__law_draw [some (hnd cs p b m c), some (.int many), none, none, none] with
    | .rt d δ => (match δ[0]? with
      | some (some h) => .ok (d, h)
      | _ => .bad)
    | .nx δ => if false = true then .bad else (match δ[0]? with
      | some (some h) => .ok (.non, h)
      | _ => .bad)
    | .ex c fs => .ex c fs
    | _ => .bad) := rfl
  rw [run]
  by_cases q : 0 < b'
  · refine ⟨b'.fmod many, hnd cs p' (b'.fdiv many) m' c, ?_, (fmod_pos _ _ h0).1, (fmod_pos _ _ h0).2, cs, p', _, m', c, rfl, hc, hp', Int.fdiv_nonneg hb' (by omega)⟩
    unfold body__law_draw
    rw [sSeq_e, e]
    dsimp only
    rw [sSeq_e, draw_2 cs p' b' m' c many y h0 h1 q]
    rfl
  · let n1 : Int := ((m' + 6151 * (c + 1)) * 40692).fmod 2147483399
    have r1 := fmod_pos ((m' + 6151 * (c + 1)) * 40692) 2147483399 (by omega)
    let n2 : Int := (n1 * (n1.fdiv 1223 + 52027)).fmod 2147483629
    have r2 := fmod_pos (n1 * (n1.fdiv 1223 + 52027)) 2147483629 (by omega)
    let n3 : Int := (n2 * (n2.fdiv 2671 + 69621)).fmod 2147483647
    refine ⟨(n3.fdiv 32).fmod many, hnd cs p' b' m' (c + 1), ?_, (fmod_pos _ _ h0).1, (fmod_pos _ _ h0).2, cs, p', _, m', _, rfl, hc, hp', hb'⟩
    unfold body__law_draw
    rw [sSeq_e, e]
    dsimp only
    rw [sSeq_e, draw_2n cs p' b' m' c many y q]
    have e1 : mulD (.int 6151) (.int (c + 1)) = some (.int (6151 * (c + 1))) := mulD_ii _ _ (.inl (by omega))
    have e2 : mulD (.int (m' + 6151 * (c + 1))) (.int 40692) = some (.int ((m' + 6151 * (c + 1)) * 40692)) := mulD_ii _ _ (.inr (by omega))
    have e3 : modD (.int ((m' + 6151 * (c + 1)) * 40692)) (.int 2147483399) = some (.int n1) := modD_ii _ _ (by omega)
    have e4 : fdivD (.int n1) (.int 1223) = some (.int (n1.fdiv 1223)) := fdivD_ii _ _ (by decide)
    have e5 : mulD (.int n1) (.int (n1.fdiv 1223 + 52027)) = some (.int (n1 * (n1.fdiv 1223 + 52027))) := mulD_ii _ _ (.inl (by omega))
    have e6 : modD (.int (n1 * (n1.fdiv 1223 + 52027))) (.int 2147483629) = some (.int n2) := modD_ii _ _ (by omega)
    have e7 : fdivD (.int n2) (.int 2671) = some (.int (n2.fdiv 2671)) := fdivD_ii _ _ (by decide)
    have e8 : mulD (.int n2) (.int (n2.fdiv 2671 + 69621)) = some (.int (n2 * (n2.fdiv 2671 + 69621))) := mulD_ii _ _ (.inl (by omega))
    have e9 : modD (.int (n2 * (n2.fdiv 2671 + 69621))) (.int 2147483647) = some (.int n3) := modD_ii _ _ (by omega)
    have e10 : fdivD (.int n3) (.int 32) = some (.int (n3.fdiv 32)) := fdivD_ii _ _ (by decide)
    have e11 : modD (.int (n3.fdiv 32)) (.int many) = some (.int ((n3.fdiv 32).fmod many)) := modD_ii _ _ (by omega)
    clear_value n3 n2 n1
    unfold hnd
    simp [at5, ix5, e1, e2, e3, e4, e5, e6, e7, e8, e9, e10, e11]

/-! ### of lists -/
theorem lcL_map {α : Type} {g : D → Res (Option D)} {e k : α → D} : ∀ {l : List α}, (∀ a ∈ l, g (e a) = .ok (some (k a))) → lcL g (l.map e) = .ok (l.map k)
  | [], _ => rfl
  | a :: l, h => by
    rw [List.map_cons, List.map_cons]
    unfold lcL
    rw [h a List.mem_cons_self]
    dsimp only
    rw [lcL_map fun b hb => h b (List.mem_cons_of_mem _ hb)]; rfl
theorem lcL_filter {α : Type} {g : D → Res (Option D)} {e k : α → D} {q : α → Bool} : ∀ {l : List α}, (∀ a ∈ l, g (e a) = .ok (if q a then some (k a) else none)) → lcL g (l.map e) = .ok ((l.filter q).map k)
  | [], _ => rfl
  | a :: l, h => by
    have ih := lcL_filter (l := l) fun b hb => h b (List.mem_cons_of_mem _ hb)
    rw [List.map_cons]
    unfold lcL
    rw [h a List.mem_cons_self]
    cases e : q a with
    | true => rw [List.filter_cons_of_pos e]; simp only [if_true]; rw [ih]; rfl
    | false => rw [List.filter_cons_of_neg (by simp [e])]; simp only [Bool.false_eq_true, if_false]; exact ih
theorem lcL_id {g : D → Res (Option D)} {k : D → D} {l : List D} (h : ∀ a ∈ l, g a = .ok (some (k a))) : lcL g l = .ok (l.map k) := by
  have := lcL_map (e := fun d => d) (k := k) h
  rwa [List.map_id'] at this
theorem lcL_idf {g : D → Res (Option D)} {q : D → Bool} {l : List D} (h : ∀ a ∈ l, g a = .ok (if q a then some a else none)) : lcL g l = .ok (l.filter q) := by
  have := lcL_filter (e := fun d => d) (k := fun d => d) h
  rwa [List.map_id', List.map_id'] at this
theorem cutL_map {α β : Type} (e : α → β) (l : List α) (lo hi : Option Int) : cutL (l.map e) lo hi = (cutL l lo hi).map e := by
  unfold cutL; rw [List.length_map, ← List.map_drop, ← List.map_take]
theorem cutL_len {α : Type} (l : List α) (lo hi : Option Int) : (cutL l lo hi).length ≤ l.length := by
  unfold cutL; rw [List.length_take, List.length_drop]; omega
@[simp] theorem intsOf_map : ∀ l : List Int, intsOf (l.map D.int) = some l
  | [] => rfl
  | i :: l => by show (intsOf (l.map D.int)).map (i :: ·) = _; rw [intsOf_map l]; rfl
@[simp] theorem blsOf_map : ∀ l : List Bool, blsOf (l.map D.bl) = some l
  | [] => rfl
  | i :: l => by show (blsOf (l.map D.bl)).map (i :: ·) = _; rw [blsOf_map l]; rfl
@[simp] theorem cleans_ints : ∀ l : List Int, cleans (l.map D.int) = true
  | [] => rfl
  | i :: l => by show (clean (.int i) && cleans (l.map D.int)) = true; rw [cleans_ints l]; rfl
/-! ### defs from their bodies -/
theorem denP_rt {o : Bool} {n m : Nat} {fb : DS → Out} {ds : List D} {d : D} {δ : DS} (hl : ds.length = n) (h : fb (ds.map some ++ List.replicate (m - n) none) = .rt d δ) : denP o n m fb ds = .ok d := by
  unfold denP; rw [if_pos hl, h]
theorem denP_nx {n m : Nat} {fb : DS → Out} {ds : List D} {δ : DS} (hl : ds.length = n) (h : fb (ds.map some ++ List.replicate (m - n) none) = .nx δ) : denP false n m fb ds = .ok .non := by
  unfold denP; rw [if_pos hl, h]; rfl
theorem denIO_rt {o : Bool} {n m : Nat} {fb : DS → Out} {ds : List D} {d x : D} {δ : DS} (hl : ds.length = n + 1) (h : fb (ds.map some ++ List.replicate (m - (n + 1)) none) = .rt d δ) (h0 : δ[0]? = some (some x)) : denIO o n m fb ds = .ok (d, x) := by
  unfold denIO; rw [if_pos hl, h]; dsimp only; rw [h0]
theorem hand_ok (ns : List Int) (hl : ns.length ≤ 63) : ∃ h, den__law_hand [.fl (ns.map .int)] = .ok h ∧ HandOk h := by
  let cs : List Int := (cutL ns none (some 63)).map fun i => if i < 0 then -i else i
  have hcs : cs.length ≤ 63 := by
    show (List.map _ _).length ≤ 63
    rw [List.length_map]; exact Nat.le_trans (cutL_len _ _ _) hl
  have hc : ∀ v ∈ cs, 0 ≤ v := fun v hv => by
    obtain ⟨i, _, rfl⟩ := List.mem_map.mp hv
    split <;> omega
  refine ⟨hnd cs 0 0 (97 + 5 * cs.length) 0, denP_rt (δ := [some (.fl (ns.map .int)), some (.lst (cs.map .int)), none]) rfl ?_, cs, 0, 0, _, 0, rfl, hc, by omega, by omega⟩
  show body__law_hand [some (.fl (ns.map .int)), none, none] = _
  have el : lcL (lcT [2] (setD 2) bYes (pCB absD (aCons (pCB intD (aCons (pVar 2) aNil)) aNil)) [some (.fl (ns.map .int)), none, none]) ((cutL ns none (some 63)).map .int) = .ok ((cutL ns none (some 63)).map fun i => D.int (if i < 0 then -i else i)) :=
    lcL_map fun i _ => by simp [lcT]
  have em : ((cutL ns none (some 63)).map fun i => D.int (if i < 0 then -i else i)) = cs.map D.int := by rw [List.map_map]; rfl
  rw [em] at el
  have e5 : mulD (.int 5) (.int (cs.length : Int)) = some (.int (5 * cs.length)) := mulD_ii _ _ (.inl (by omega))
  have hn : cs.length ≤ LN := Nat.le_trans hcs (by decide)
  have h5 : (5 : Nat) ≤ LN := by decide
  unfold body__law_hand hnd
  clear_value cs
  simp [cutL_map, el, hn, e5, h5]

def StrOk (x : Str) : Bool := x.cps.all (· < 0x110000)
theorem shp_s {x : Str} (h : StrOk x = true) : shp (.str x) = some (.str x) := by
  unfold shp toP
  rw [show x.cps.all (fun c => decide (c < 0x110000)) = true from h]
  rfl
theorem eqD_ss {x y : Str} (hx : StrOk x = true) (hy : StrOk y = true) : eqD (.str x) (.str y) = some (.bl (decide (x = y))) := by
  unfold eqD eqvD
  rw [shp_s hx, shp_s hy]
  show some (D.bl (PyData.eqv (.str x) (.str y))) = _
  first | (congr 2; done) | (congr 2; simp [PyData.eqv])
theorem neD_ss {x y : Str} (hx : StrOk x = true) (hy : StrOk y = true) : neD (.str x) (.str y) = some (.bl (!decide (x = y))) := by
  unfold neD eqvD
  rw [shp_s hx, shp_s hy]
  show some (D.bl (!PyData.eqv (.str x) (.str y))) = _
  first | (congr 2; done) | (congr 3; simp [PyData.eqv])
inductive Pl : Nat → D → Prop
  | non (n : Nat) : Pl n .non
  | bl (n : Nat) (b : Bool) : Pl n (.bl b)
  | int (n : Nat) (i : Int) : Pl n (.int i)
  | str (n : Nat) (x : Str) (h : StrOk x = true) : Pl n (.str x)
  | tup (n : Nat) (ds : List D) (h : ∀ d ∈ ds, Pl n d) (hl : ds.length ≤ LN) : Pl (n + 1) (.tup ds)
theorem eqD_non : eqD .non .non = some (.bl true) := rfl
theorem is_self : ∀ (n : Nat) (d : D), Pl n d → den__law_is (n + 1) [d, d] = .ok (.bl true) := by
  intro n
  induction n with
  | zero =>
    intro d h
    refine denP_rt (δ := [some d, some d, none, none, none]) rfl ?_
    show body__law_is (den__law_is 0) [some d, some d, none, none, none] = _
    unfold body__law_is q__law_is_1 q__law_is_5 q__law_is_9
    cases h with
    | non => simp [isiTD, tyName, isiAnyB, isiB, isi1D, isD, eqD_non]
    | bl _ b => simp [isiTD, tyName, isiAnyB, isiB, isi1D, isD]
    | int _ i => simp [isiTD, tyName, isiAnyB, isiB, isi1D, isD]
    | str _ x hx => simp [isiTD, tyName, isiAnyB, isiB, isi1D, isD, eqD_ss hx hx]
  | succ n ih =>
    intro d h
    refine denP_rt (δ := [some d, some d, none, none, none]) rfl ?_
    show body__law_is (den__law_is (n + 1)) [some d, some d, none, none, none] = _
    unfold body__law_is q__law_is_1 q__law_is_5 q__law_is_9
    cases h with
    | non => simp [isiTD, tyName, isiAnyB, isiB, isi1D, isD, eqD_non]
    | bl _ b => simp [isiTD, tyName, isiAnyB, isiB, isi1D, isD]
    | int _ i => simp [isiTD, tyName, isiAnyB, isiB, isi1D, isD]
    | str _ x hx => simp [isiTD, tyName, isiAnyB, isiB, isi1D, isD, eqD_ss hx hx]
    | tup _ ds h hl =>
      have ez : zipL ds ds = ds.map fun d => D.tup [d, d] := by
        unfold zipL; rw [List.zipWith_self]
      have el : lcL (lcT [2, 3] (tupN 2 (gsCons (setD 2) (gsCons (setD 3) gsNil))) bYes (pCall (den__law_is (n + 1)) (aCons (pVar 2) (aCons (pVar 3) aNil))) [some (.tup ds), some (.tup ds), none, none, none]) (ds.map fun d => D.tup [d, d]) = .ok ((ds.map fun _ => true).map D.bl) := by
        rw [List.map_map]
        refine lcL_map fun d hd => ?_
        simp [lcT, ih d (h d hd)]
      have eb : ((ds.map fun _ => true).map D.bl).length ≤ LN := by simpa using hl
      have ea : allD [.lst ((ds.map fun _ => true).map D.bl)] = some (.bl true) := by
        show (blsOf ((ds.map fun _ => true).map D.bl)).map _ = _
        rw [blsOf_map]; simp
      unfold q__law_is_2
      generalize (ds.map fun _ => true).map D.bl = bs at el eb ea
      simp [isiTD, tyName, isiAnyB, isiB, isi1D, isD, zipD, ez, el, eb, ea]
end Dn

set_option Elab.async false
set_option linter.all false
set_option maxRecDepth 100000
set_option autoImplicit false
set_option maxHeartbeats 4000000
namespace Lw
open PySem PySem.Spec L2 Dn
open PyProof.Rows hiding St
def topS (i : Nat) : Stmt := PySem.Challenge.pw_loomhouse_k46_whole_shapes_of_knitting.main.body.getD i (.Pass ⟨0, 0, 0, 0⟩)
def D_MOST_LOOPS : D := .int 40
def D_MOST_SHAPED : D := .int 20
def D_FAR : D := .str "far"
def D_ROWS : D := .str "rows"
def D_MOST_STITCHES : D := .int 12
def D_TAKES : D := .dct 2 [.str "k", .str "p", .str "m", .str "o", .str "d", .str "e", .str "c", .str "t"] [.int 1, .int 1, .int 1, .int 0, .int 2, .int 2, .int 2, .int 3]
def D_MOST_ROWS : D := .int 6
def D_OTHERS : D := .dct 2 [.str "k", .str "p", .str "d", .str "e"] [.str "p", .str "k", .str "e", .str "d"]
/-! _law_hand -/
abbrev s__law_hand : Stmt := topS 27
theorem sc__law_hand : FnScope ["script", "cells", "cell"] ["script"] (defScope s__law_hand) := ⟨rfl, rfl, rfl, by decide +kernel, rfl, by decide +kernel, by decide +kernel⟩
/-! _law_draw -/
abbrev s__law_draw : Stmt := topS 28
theorem sc__law_draw : FnScope ["hand", "many", "cell", "figure", "number"] ["hand", "many"] (defScope s__law_draw) := ⟨rfl, rfl, rfl, by decide +kernel, rfl, by decide +kernel, by decide +kernel⟩
/-! _law_numbers -/
abbrev s__law_numbers : Stmt := topS 30
theorem sc__law_numbers : FnScope ["letter"] ["letter"] (defScope s__law_numbers) := ⟨rfl, rfl, rfl, by decide +kernel, rfl, by decide +kernel, by decide +kernel⟩
noncomputable def body__law_numbers : DS → Out := sSeq (sRet (xM [] (pM "dict" dgetD (pDisp [(pC (.str "m"), pTup (aCons (pC (.int 1)) (aCons (pC (.int 2)) (aNil)))), (pC (.str "o"), pTup (aCons (pC (.int 0)) (aCons (pC (.int 1)) (aNil)))), (pC (.str "d"), pTup (aCons (pC (.int 2)) (aCons (pC (.int 1)) (aNil)))), (pC (.str "e"), pTup (aCons (pC (.int 2)) (aCons (pC (.int 1)) (aNil)))), (pC (.str "c"), pTup (aCons (pC (.int 2)) (aCons (pC (.int 2)) (aNil)))), (pC (.str "t"), pTup (aCons (pC (.int 3)) (aCons (pC (.int 1)) (aNil))))]) (aCons (pVar 0) (aCons (pTup (aCons (pC (.int 1)) (aCons (pC (.int 1)) (aNil)))) (aNil)))))) (sNil)
noncomputable def den__law_numbers : List D → Res D := denP false 1 1 body__law_numbers
/-! _law_takes -/
abbrev s__law_takes : Stmt := topS 31
theorem sc__law_takes : FnScope ["row", "letter"] ["row"] (defScope s__law_takes) := ⟨rfl, rfl, rfl, by decide +kernel, rfl, by decide +kernel, by decide +kernel⟩
noncomputable def body__law_takes : DS → Out := sSeq (sRet (xM [] (pCB sumD (aCons (pLc [1] (iW (pVar 0)) (setD 1) (bYes) (p2 ixD (pCall (den__law_numbers) (aCons (pVar 1) (aNil))) (pC (.int 0)))) (aNil))))) (sNil)
noncomputable def den__law_takes : List D → Res D := denP false 1 2 body__law_takes
/-! _law_some -/
abbrev s__law_some : Stmt := topS 29
theorem sc__law_some : FnScope ["hand", "things"] ["hand", "things"] (defScope s__law_some) := ⟨rfl, rfl, rfl, by decide +kernel, rfl, by decide +kernel, by decide +kernel⟩
noncomputable def body__law_some : DS → Out := sSeq (sRet (x2 ixD (xM [0] (pVar 1)) (xIO 0 (den__law_draw) (xCons (xM [0] (pCB lenD (aCons (pVar 1) (aNil)))) (xNil))))) (sNil)
noncomputable def den__law_some : List D → Res (D × D) := denIO false 1 2 body__law_some
/-! _law_row_for -/
abbrev s__law_row_for : Stmt := topS 33
theorem sc__law_row_for : FnScope ["hand", "loops", "row", "left", "some", "letter", "one"] ["hand", "loops"] (defScope s__law_row_for) := ⟨rfl, rfl, rfl, by decide +kernel, rfl, by decide +kernel, by decide +kernel⟩
noncomputable def b__law_row_for_2 : DS → Out := sSeq (sSet 4 (xM [0] (pLc [5] (iW (pC (.str "kkkpmodect"))) (setD 5) (pB leD (p2 ixD (pCall (den__law_numbers) (aCons (pVar 5) (aNil))) (pC (.int 0))) (pVar 3)) (pVar 5)))) (sSeq (sSet 2 (x2 addD (xM [0] (pVar 2)) (xIf (bZ (pB ltD (pCB lenD (aCons (pVar 2) (aNil))) (pC (.int 3)))) (xIO 0 (den__law_some) (xCons (xM [0] (pVar 4)) (xNil))) (xIO 0 (den__law_some) (xCons (xM [0] (pLc [6] (iW (pVar 4)) (setD 6) (pB neD (pVar 6) (pC (.str "o"))) (pVar 6))) (xNil)))))) (sSeq (sSet 3 (xM [0] (p2 subD (pVar 1) (pCall (den__law_takes) (aCons (pVar 2) (aNil)))))) (sNil)))
noncomputable def q__law_row_for_2 : DS → Out := sWhile (bZ (bAnd (pB gtD (pVar 3) (pC (.int 0))) (pB ltD (pCB lenD (aCons (pVar 2) (aNil))) (pC (.int 12))))) b__law_row_for_2
noncomputable def body__law_row_for : DS → Out := sSeq (sTg (tupN 2 (gsCons (setD 2) (gsCons (setD 3) (gsNil)))) (xM [0] (pTup (aCons (pC (.str "")) (aCons (pVar 1) (aNil)))))) (sSeq (q__law_row_for_2) (sSeq (sRet (xM [0] (pIf (bAnd (pB eqD (pVar 3) (pC (.int 0))) (pB gtD (pCB lenD (aCons (pVar 2) (aNil))) (pC (.int 0)))) (pVar 2) (pC .non)))) (sNil)))
noncomputable def den__law_row_for : List D → Res (D × D) := denIO false 1 7 body__law_row_for
/-! _law_makes -/
abbrev s__law_makes : Stmt := topS 32
theorem sc__law_makes : FnScope ["row", "letter"] ["row"] (defScope s__law_makes) := ⟨rfl, rfl, rfl, by decide +kernel, rfl, by decide +kernel, by decide +kernel⟩
noncomputable def body__law_makes : DS → Out := sSeq (sRet (xM [] (pCB sumD (aCons (pLc [1] (iW (pVar 0)) (setD 1) (bYes) (p2 ixD (pCall (den__law_numbers) (aCons (pVar 1) (aNil))) (pC (.int 1)))) (aNil))))) (sNil)
noncomputable def den__law_makes : List D → Res D := denP false 1 2 body__law_makes
/-! _law_chart -/
abbrev s__law_chart : Stmt := topS 34
theorem sc__law_chart : FnScope ["hand", "rows", "loops", "turn", "row"] ["hand"] (defScope s__law_chart) := ⟨rfl, rfl, rfl, by decide +kernel, rfl, by decide +kernel, by decide +kernel⟩
noncomputable def q__law_chart_4 : DS → Out := sIf (bZ (pB isnotD (pVar 4) (pC .non))) (sSeq (sMth 1 appD (xCons (xM [1, 0] (pVar 4)) (xNil))) (sSeq (sSet 2 (xM [1, 0] (pCall (den__law_makes) (aCons (pVar 4) (aNil))))) (sNil))) (sNil)
noncomputable def b__law_chart_2 : DS → Out := sSeq (sSet 4 (xIO 0 (den__law_row_for) (xCons (xM [1, 0] (pVar 2)) (xNil)))) (sSeq (q__law_chart_4) (sNil))
noncomputable def q__law_chart_2 : DS → Out := sFor (xR range1D (xCons (x2 addD (xM [1, 0] (pC (.int 1))) (xIO 0 (den__law_draw) (xCons (xM [1, 0] (pC (.int 5))) (xNil)))) (xNil))) (setD 3) b__law_chart_2
noncomputable def body__law_chart : DS → Out := sSeq (sParO 1 2 (xM [0] (pLst (aNil))) (x2 addD (xM [0] (pC (.int 1))) (xIO 0 (den__law_draw) (xCons (xM [0] (pC (.int 9))) (xNil))))) (sSeq (q__law_chart_2) (sSeq (sRet (xZ (pIf (pB gtD (pCB lenD (aCons (pVar 1) (aNil))) (pC (.int 0))) (pCB tupleD (aCons (pVar 1) (aNil))) (pTup (aCons (pC (.str "kp")) (aNil)))))) (sNil)))
noncomputable def den__law_chart : List D → Res (D × D) := denIO false 0 5 body__law_chart
/-! _law_is -/
abbrev s__law_is : Stmt := topS 35
theorem sc__law_is : FnScope ["told", "due", "one", "two", "key"] ["told", "due"] (defScope s__law_is) := ⟨rfl, rfl, rfl, by decide +kernel, rfl, by decide +kernel, by decide +kernel⟩
/-! is_integer -/
abbrev s_is_integer : Stmt := topS 1
theorem sc_is_integer : FnScope ["thing"] ["thing"] (defScope s_is_integer) := ⟨rfl, rfl, rfl, by decide +kernel, rfl, by decide +kernel, by decide +kernel⟩
noncomputable def body_is_integer : DS → Out := sSeq (sRet (xM [] (pAnd (pCB isi1D (aCons (pVar 0) (aCons (pC (.ty "int")) (aNil)))) (pNot (pCB isi1D (aCons (pVar 0) (aCons (pC (.ty "bool")) (aNil)))))))) (sNil)
noncomputable def den_is_integer : List D → Res D := denP false 1 1 body_is_integer
/-! is_within -/
abbrev s_is_within : Stmt := topS 2
theorem sc_is_within : FnScope ["thing", "low", "high"] ["thing", "low", "high"] (defScope s_is_within) := ⟨rfl, rfl, rfl, by decide +kernel, rfl, by decide +kernel, by decide +kernel⟩
noncomputable def body_is_within : DS → Out := sSeq (sRet (xM [] (pAnd (pCall (den_is_integer) (aCons (pVar 0) (aNil))) (pChain leD leD (pVar 1) (pVar 0) (pVar 2))))) (sNil)
noncomputable def den_is_within : List D → Res D := denP false 3 3 body_is_within
/-! shaped -/
abbrev s_shaped : Stmt := topS 22
theorem sc_shaped : FnScope ["a", "b", "rows", "most", "counts", "r", "one", "other"] ["a", "b", "rows", "most"] (defScope s_shaped) := ⟨rfl, rfl, rfl, by decide +kernel, rfl, by decide +kernel, by decide +kernel⟩
noncomputable def q_shaped_1 : DS → Out := sIf (bZ (bOr (bNot (pT (pCall (den_is_within) (aCons (pVar 0) (aCons (pC (.int 1)) (aCons (pC D_MOST_LOOPS) (aNil))))))) (bNot (pT (pCall (den_is_within) (aCons (pVar 1) (aCons (pC (.int 1)) (aCons (pC D_MOST_LOOPS) (aNil))))))))) ((fun _ => .bad)) (sNil)
noncomputable def q_shaped_3 : DS → Out := sIf (bZ (bOr (bNot (pT (pCall (den_is_within) (aCons (pVar 2) (aCons (pC (.int 0)) (aCons (pC D_MOST_SHAPED) (aNil))))))) (bNot (pT (pCall (den_is_within) (aCons (pVar 3) (aCons (pC (.int 1)) (aCons (pC (.int 10)) (aNil))))))))) ((fun _ => .bad)) (sNil)
noncomputable def q_shaped_6 : DS → Out := sIf (bZ (bOr (pB neD (p2 ixD (pVar 4) (pU negD (pC (.int 1)))) (pVar 1)) (pT (pCB anyD (aCons (pLc [6, 7] (iR zipD (aCons (pVar 4) (aCons (pSl slD (pVar 4) (pPart (pC (.int 1))) (pNoPart)) (aNil)))) (tupN 2 (gsCons (setD 6) (gsCons (setD 7) (gsNil)))) (bYes) (p2 gtD (pCB absD (aCons (p2 subD (pVar 6) (pVar 7)) (aNil))) (pVar 3))) (aNil)))))) (sSeq (sRet (xM [] (pTup (aCons (pC D_FAR) (aNil))))) (sNil)) (sNil)
noncomputable def body_shaped : DS → Out := sSeq (q_shaped_1) (sSeq (q_shaped_3) (sSeq (sSet 4 (xM [] (p2 addD (pLst (aCons (pVar 0) (aNil))) (pLc [5] (iR range2D (aCons (pC (.int 1)) (aCons (p2 addD (pVar 2) (pC (.int 1))) (aNil)))) (setD 5) (bYes) (p2 addD (pVar 0) (p2 fdivD (p2 mulD (p2 subD (pVar 1) (pVar 0)) (pVar 5)) (pCB maxD (aCons (pC (.int 1)) (aCons (pVar 2) (aNil)))))))))) (sSeq (q_shaped_6) (sSeq (sRet (xM [] (pTup (aCons (pC D_ROWS) (aCons (pCB tupleD (aCons (pSl slD (pVar 4) (pPart (pC (.int 1))) (pNoPart)) (aNil))) (aNil)))))) (sNil)))))
noncomputable def den_shaped : List D → Res D := denP false 4 8 body_shaped
/-! even_places -/
abbrev s_even_places : Stmt := topS 23
theorem sc_even_places : FnScope ["n", "k", "i"] ["n", "k"] (defScope s_even_places) := ⟨rfl, rfl, rfl, by decide +kernel, rfl, by decide +kernel, by decide +kernel⟩
noncomputable def q_even_places_1 : DS → Out := sIf (bZ (bOr (bNot (pT (pCall (den_is_within) (aCons (pVar 0) (aCons (pC (.int 1)) (aCons (pC D_MOST_LOOPS) (aNil))))))) (bNot (pT (pCall (den_is_within) (aCons (pVar 1) (aCons (pC (.int 0)) (aCons (pVar 0) (aNil))))))))) ((fun _ => .bad)) (sNil)
noncomputable def body_even_places : DS → Out := sSeq (q_even_places_1) (sSeq (sRet (xM [] (pCB tupleD (aCons (pLc [2] (iR range1D (aCons (pVar 1) (aNil))) (setD 2) (bYes) (p2 fdivD (p2 mulD (p2 addD (p2 mulD (pC (.int 2)) (pVar 2)) (pC (.int 1))) (pVar 0)) (p2 mulD (pC (.int 2)) (pVar 1)))) (aNil))))) (sNil))
noncomputable def den_even_places : List D → Res D := denP false 2 3 body_even_places
/-! is_sized -/
abbrev s_is_sized : Stmt := topS 3
theorem sc_is_sized : FnScope ["thing", "low", "high"] ["thing", "low", "high"] (defScope s_is_sized) := ⟨rfl, rfl, rfl, by decide +kernel, rfl, by decide +kernel, by decide +kernel⟩
noncomputable def body_is_sized : DS → Out := sSeq (sRet (xM [] (pAnd (pCB isi1D (aCons (pVar 0) (aCons (pC (.ty "tuple")) (aNil)))) (pChain leD leD (pVar 1) (pCB lenD (aCons (pVar 0) (aNil))) (pVar 2))))) (sNil)
noncomputable def den_is_sized : List D → Res D := denP false 3 3 body_is_sized
/-! is_row -/
abbrev s_is_row : Stmt := topS 18
theorem sc_is_row : FnScope ["thing", "sign"] ["thing"] (defScope s_is_row) := ⟨rfl, rfl, rfl, by decide +kernel, rfl, by decide +kernel, by decide +kernel⟩
noncomputable def body_is_row : DS → Out := sSeq (sRet (xM [] (pAnd (pCB isi1D (aCons (pVar 0) (aCons (pC (.ty "str")) (aNil)))) (pAnd (pChain leD leD (pC (.int 1)) (pCB lenD (aCons (pVar 0) (aNil))) (pC D_MOST_STITCHES)) (pCB allD (aCons (pLc [1] (iW (pVar 0)) (setD 1) (bYes) (p2 inD (pVar 1) (pC D_TAKES))) (aNil))))))) (sNil)
noncomputable def den_is_row : List D → Res D := denP false 1 2 body_is_row
/-! is_chart -/
abbrev s_is_chart : Stmt := topS 20
theorem sc_is_chart : FnScope ["thing", "row"] ["thing"] (defScope s_is_chart) := ⟨rfl, rfl, rfl, by decide +kernel, rfl, by decide +kernel, by decide +kernel⟩
noncomputable def body_is_chart : DS → Out := sSeq (sRet (xM [] (pAnd (pCall (den_is_sized) (aCons (pVar 0) (aCons (pC (.int 1)) (aCons (pC D_MOST_ROWS) (aNil))))) (pCB allD (aCons (pLc [1] (iW (pVar 0)) (setD 1) (bYes) (pCall (den_is_row) (aCons (pVar 1) (aNil)))) (aNil)))))) (sNil)
noncomputable def den_is_chart : List D → Res D := denP false 1 2 body_is_chart
/-! check_chart -/
abbrev s_check_chart : Stmt := topS 21
theorem sc_check_chart : FnScope ["chart"] ["chart"] (defScope s_check_chart) := ⟨rfl, rfl, rfl, by decide +kernel, rfl, by decide +kernel, by decide +kernel⟩
noncomputable def q_check_chart_1 : DS → Out := sIf (bZ (bNot (pT (pCall (den_is_chart) (aCons (pVar 0) (aNil)))))) ((fun _ => .bad)) (sNil)
noncomputable def body_check_chart : DS → Out := sSeq (q_check_chart_1) (sNil)
noncomputable def den_check_chart : List D → Res D := denP false 1 1 body_check_chart
/-! undo -/
abbrev s_undo : Stmt := topS 24
theorem sc_undo : FnScope ["chart", "many"] ["chart", "many"] (defScope s_undo) := ⟨rfl, rfl, rfl, by decide +kernel, rfl, by decide +kernel, by decide +kernel⟩
noncomputable def q_undo_2 : DS → Out := sIf (bZ (bNot (pT (pCall (den_is_within) (aCons (pVar 1) (aCons (pC (.int 0)) (aCons (pCB lenD (aCons (pVar 0) (aNil))) (aNil)))))))) ((fun _ => .bad)) (sNil)
noncomputable def body_undo : DS → Out := sSeq (sExpr (xM [] (pCall (den_check_chart) (aCons (pVar 0) (aNil))))) (sSeq (q_undo_2) (sSeq (sRet (xM [] (pSl slD (pVar 0) (pNoPart) (pPart (p2 subD (pCB lenD (aCons (pVar 0) (aNil))) (pVar 1)))))) (sNil)))
noncomputable def den_undo : List D → Res D := denP false 2 2 body_undo
/-! check_row -/
abbrev s_check_row : Stmt := topS 19
theorem sc_check_row : FnScope ["row"] ["row"] (defScope s_check_row) := ⟨rfl, rfl, rfl, by decide +kernel, rfl, by decide +kernel, by decide +kernel⟩
noncomputable def q_check_row_1 : DS → Out := sIf (bZ (bNot (pT (pCall (den_is_row) (aCons (pVar 0) (aNil)))))) ((fun _ => .bad)) (sNil)
noncomputable def body_check_row : DS → Out := sSeq (q_check_row_1) (sNil)
noncomputable def den_check_row : List D → Res D := denP false 1 1 body_check_row
/-! turn_stitches -/
abbrev s_turn_stitches : Stmt := topS 25
theorem sc_turn_stitches : FnScope ["row", "sign"] ["row"] (defScope s_turn_stitches) := ⟨rfl, rfl, rfl, by decide +kernel, rfl, by decide +kernel, by decide +kernel⟩
noncomputable def body_turn_stitches : DS → Out := sSeq (sExpr (xM [] (pCall (den_check_row) (aCons (pVar 0) (aNil))))) (sSeq (sRet (xM [] (pM "str" joinD (pC (.str "")) (aCons (pLc [1] (iW (pU revD (pVar 0))) (setD 1) (bYes) (pM "dict" dgetD (pC D_OTHERS) (aCons (pVar 1) (aCons (pVar 1) (aNil))))) (aNil))))) (sNil))
noncomputable def den_turn_stitches : List D → Res D := denP false 1 2 body_turn_stitches
/-! law -/
abbrev s_law : Stmt := topS 36
theorem sc_law : FnScope ["script", "hand", "turn", "a", "b", "rows", "most", "counts", "r", "steps", "one", "other", "far", "n", "k", "places", "i", "gaps", "chart", "many", "row", "turned", "letter"] ["script"] (defScope s_law) := ⟨rfl, rfl, rfl, by decide +kernel, rfl, by decide +kernel, by decide +kernel⟩
noncomputable def q_law_5 : DS → Out := sIf (xB (x2 eqD (xIO 1 (den__law_draw) (xCons (xM [1] (pC (.int 3))) (xNil))) (xM [1] (pC (.int 0))))) (sSeq (sSet 4 (xCB maxD (xCons (xM [1] (pC (.int 1))) (xCons (xCB minD (xCons (xM [1] (pC (.int 40))) (xCons (x2 subD (x2 addD (xM [1] (pVar 3)) (xIO 1 (den__law_draw) (xCons (xM [1] (pC (.int 9))) (xNil)))) (xM [1] (pC (.int 4)))) (xNil)))) (xNil))))) (sNil)) (sNil)
noncomputable def q_law_10 : DS → Out := sIf (bZ (bNot (pT (pCall (den__law_is 6) (aCons (pCall (den_shaped) (aCons (pVar 3) (aCons (pVar 4) (aCons (pVar 5) (aCons (pVar 6) (aNil)))))) (aCons (pIf (pT (pVar 12)) (pTup (aCons (pC (.str "far")) (aNil))) (pTup (aCons (pC (.str "rows")) (aCons (pCB tupleD (aCons (pVar 7) (aNil))) (aNil))))) (aNil))))))) (sSeq (sRet (xM [1] (pC (.bl false)))) (sNil)) (sNil)
noncomputable def q_law_15 : DS → Out := sIf (bZ (bNot (pT (pCall (den__law_is 6) (aCons (pCall (den_even_places) (aCons (pVar 13) (aCons (pVar 14) (aNil)))) (aCons (pVar 15) (aNil))))))) (sSeq (sRet (xM [1] (pC (.bl false)))) (sNil)) (sNil)
noncomputable def q_law_18 : DS → Out := sIf (bZ (bAnd (pB gtD (pCB lenD (aCons (pVar 17) (aNil))) (pC (.int 0))) (pB gtD (p2 subD (pCB maxD (aCons (pVar 17) (aNil))) (pCB minD (aCons (pVar 17) (aNil)))) (pC (.int 1))))) (sSeq (sRet (xM [1] (pC (.bl false)))) (sNil)) (sNil)
noncomputable def q_law_22 : DS → Out := sIf (bZ (bNot (pT (pCall (den__law_is 6) (aCons (pCall (den_undo) (aCons (pVar 18) (aCons (pVar 19) (aNil)))) (aCons (pSl slD (pVar 18) (pNoPart) (pPart (p2 subD (pCB lenD (aCons (pVar 18) (aNil))) (pVar 19)))) (aNil))))))) (sSeq (sRet (xM [1] (pC (.bl false)))) (sNil)) (sNil)
noncomputable def q_law_26 : DS → Out := sIf (bZ (bOr (bNot (pT (pCall (den__law_is 6) (aCons (pCall (den_turn_stitches) (aCons (pVar 20) (aNil))) (aCons (pVar 21) (aNil)))))) (pB neD (pCall (den_turn_stitches) (aCons (pVar 21) (aNil))) (pVar 20)))) (sSeq (sRet (xM [1] (pC (.bl false)))) (sNil)) (sNil)
noncomputable def b_law_24 : DS → Out := sSeq (sSet 21 (xM [1] (pM "str" joinD (pC (.str "")) (aCons (pLc [22] (iW (pU revD (pVar 20))) (setD 22) (bYes) (pM "dict" dgetD (pDisp [(pC (.str "k"), pC (.str "p")), (pC (.str "p"), pC (.str "k")), (pC (.str "d"), pC (.str "e")), (pC (.str "e"), pC (.str "d"))]) (aCons (pVar 22) (aCons (pVar 22) (aNil))))) (aNil))))) (sSeq (q_law_26) (sNil))
noncomputable def q_law_24 : DS → Out := sFor (xWk (xM [1] (pVar 18))) (setD 20) b_law_24
noncomputable def b_law_2 : DS → Out := sSeq (sTg (tupN 2 (gsCons (setD 3) (gsCons (setD 4) (gsNil)))) (xTup (xCons (x2 addD (xM [1] (pC (.int 1))) (xIO 1 (den__law_draw) (xCons (xM [1] (pC (.int 40))) (xNil)))) (xCons (x2 addD (xM [1] (pC (.int 1))) (xIO 1 (den__law_draw) (xCons (xM [1] (pC (.int 40))) (xNil)))) (xNil))))) (sSeq (sTg (tupN 2 (gsCons (setD 5) (gsCons (setD 6) (gsNil)))) (xTup (xCons (xIO 1 (den__law_draw) (xCons (xM [1] (pC (.int 21))) (xNil))) (xCons (x2 addD (xM [1] (pC (.int 1))) (xIO 1 (den__law_draw) (xCons (xM [1] (pC (.int 10))) (xNil)))) (xNil))))) (sSeq (q_law_5) (sSeq (sSet 7 (xM [1] (pIf (pB gtD (pVar 5) (pC (.int 0))) (pLc [8] (iR range2D (aCons (pC (.int 1)) (aCons (p2 addD (pVar 5) (pC (.int 1))) (aNil)))) (setD 8) (bYes) (p2 addD (pVar 3) (p2 fdivD (p2 mulD (p2 subD (pVar 4) (pVar 3)) (pVar 8)) (pVar 5)))) (pLst (aNil))))) (sSeq (sSet 9 (xM [1] (pLc [10, 11] (iR zipD (aCons (p2 addD (pLst (aCons (pVar 3) (aNil))) (pVar 7)) (aCons (pVar 7) (aNil)))) (tupN 2 (gsCons (setD 10) (gsCons (setD 11) (gsNil)))) (bYes) (pCB absD (aCons (p2 subD (pVar 10) (pVar 11)) (aNil)))))) (sSeq (sSet 12 (xM [1] (pOr (p2 gtD (pCB maxD (aCons (p2 addD (pLst (aCons (pC (.int 0)) (aNil))) (pVar 9)) (aNil))) (pVar 6)) (pAnd (p2 eqD (pVar 5) (pC (.int 0))) (p2 neD (pVar 3) (pVar 4)))))) (sSeq (q_law_10) (sSeq (sSet 13 (x2 addD (xM [1] (pC (.int 1))) (xIO 1 (den__law_draw) (xCons (xM [1] (pC (.int 40))) (xNil))))) (sSeq (sSet 14 (xIO 1 (den__law_draw) (xCons (xM [1] (p2 addD (pVar 13) (pC (.int 1)))) (xNil)))) (sSeq (sSet 15 (xM [1] (pCB tupleD (aCons (pLc [16] (iR range1D (aCons (pVar 14) (aNil))) (setD 16) (bYes) (p2 fdivD (p2 mulD (p2 addD (p2 mulD (pC (.int 2)) (pVar 16)) (pC (.int 1))) (pVar 13)) (p2 mulD (pC (.int 2)) (pVar 14)))) (aNil))))) (sSeq (q_law_15) (sSeq (sSet 17 (xM [1] (pLc [10, 11] (iR zipD (aCons (pVar 15) (aCons (pSl slD (pVar 15) (pPart (pC (.int 1))) (pNoPart)) (aNil)))) (tupN 2 (gsCons (setD 10) (gsCons (setD 11) (gsNil)))) (bYes) (p2 subD (pVar 11) (pVar 10))))) (sSeq (q_law_18) (sSeq (sSet 18 (xIO 1 (den__law_chart) (xNil))) (sSeq (sSet 19 (xIO 1 (den__law_draw) (xCons (xM [1] (p2 addD (pCB lenD (aCons (pVar 18) (aNil))) (pC (.int 1)))) (xNil)))) (sSeq (q_law_22) (sSeq (q_law_24) (sNil)))))))))))))))))
noncomputable def q_law_2 : DS → Out := sFor (xR range1D (xCons (xM [1] (pC (.int 8))) (xNil))) (setD 2) b_law_2
noncomputable def body_law : DS → Out := sSeq (sSet 1 (xM [] (pCall (den__law_hand) (aCons (pVar 0) (aNil))))) (sSeq (q_law_2) (sSeq (sRet (xM [1] (pC (.bl true)))) (sNil)))
noncomputable def den_law : List D → Res D := denP false 1 23 body_law
/-- what the top has written -/
structure Tx (K : PySem.W.Frag) (mg : Str → Option Value) (w : World) where
  a__law_hand : Addr
  f__law_hand : FuncData
  F__law_hand : Fun K "_law_hand" "_law_hand" s__law_hand a__law_hand f__law_hand
  b__law_hand : Binds K f__law_hand ["script"] []
  m__law_hand : mg "_law_hand" = some (.ref a__law_hand)
  a__law_draw : Addr
  f__law_draw : FuncData
  F__law_draw : Fun K "_law_draw" "_law_draw" s__law_draw a__law_draw f__law_draw
  b__law_draw : Binds K f__law_draw ["hand", "many"] []
  m__law_draw : mg "_law_draw" = some (.ref a__law_draw)
  a__law_numbers : Addr
  f__law_numbers : FuncData
  F__law_numbers : Fun K "_law_numbers" "_law_numbers" s__law_numbers a__law_numbers f__law_numbers
  b__law_numbers : Binds K f__law_numbers ["letter"] []
  m__law_numbers : mg "_law_numbers" = some (.ref a__law_numbers)
  a__law_takes : Addr
  f__law_takes : FuncData
  F__law_takes : Fun K "_law_takes" "_law_takes" s__law_takes a__law_takes f__law_takes
  b__law_takes : Binds K f__law_takes ["row"] []
  m__law_takes : mg "_law_takes" = some (.ref a__law_takes)
  a__law_some : Addr
  f__law_some : FuncData
  F__law_some : Fun K "_law_some" "_law_some" s__law_some a__law_some f__law_some
  b__law_some : Binds K f__law_some ["hand", "things"] []
  m__law_some : mg "_law_some" = some (.ref a__law_some)
  a__law_row_for : Addr
  f__law_row_for : FuncData
  F__law_row_for : Fun K "_law_row_for" "_law_row_for" s__law_row_for a__law_row_for f__law_row_for
  b__law_row_for : Binds K f__law_row_for ["hand", "loops"] []
  m__law_row_for : mg "_law_row_for" = some (.ref a__law_row_for)
  a__law_makes : Addr
  f__law_makes : FuncData
  F__law_makes : Fun K "_law_makes" "_law_makes" s__law_makes a__law_makes f__law_makes
  b__law_makes : Binds K f__law_makes ["row"] []
  m__law_makes : mg "_law_makes" = some (.ref a__law_makes)
  a__law_chart : Addr
  f__law_chart : FuncData
  F__law_chart : Fun K "_law_chart" "_law_chart" s__law_chart a__law_chart f__law_chart
  b__law_chart : Binds K f__law_chart ["hand"] []
  m__law_chart : mg "_law_chart" = some (.ref a__law_chart)
  a__law_is : Addr
  f__law_is : FuncData
  F__law_is : Fun K "_law_is" "_law_is" s__law_is a__law_is f__law_is
  b__law_is : Binds K f__law_is ["told", "due"] []
  m__law_is : mg "_law_is" = some (.ref a__law_is)
  a_is_integer : Addr
  f_is_integer : FuncData
  F_is_integer : Fun K "is_integer" "is_integer" s_is_integer a_is_integer f_is_integer
  b_is_integer : Binds K f_is_integer ["thing"] []
  m_is_integer : mg "is_integer" = some (.ref a_is_integer)
  a_is_within : Addr
  f_is_within : FuncData
  F_is_within : Fun K "is_within" "is_within" s_is_within a_is_within f_is_within
  b_is_within : Binds K f_is_within ["thing", "low", "high"] []
  m_is_within : mg "is_within" = some (.ref a_is_within)
  a_shaped : Addr
  f_shaped : FuncData
  F_shaped : Fun K "shaped" "shaped" s_shaped a_shaped f_shaped
  b_shaped : Binds K f_shaped ["a", "b", "rows", "most"] []
  m_shaped : mg "shaped" = some (.ref a_shaped)
  a_even_places : Addr
  f_even_places : FuncData
  F_even_places : Fun K "even_places" "even_places" s_even_places a_even_places f_even_places
  b_even_places : Binds K f_even_places ["n", "k"] []
  m_even_places : mg "even_places" = some (.ref a_even_places)
  a_is_sized : Addr
  f_is_sized : FuncData
  F_is_sized : Fun K "is_sized" "is_sized" s_is_sized a_is_sized f_is_sized
  b_is_sized : Binds K f_is_sized ["thing", "low", "high"] []
  m_is_sized : mg "is_sized" = some (.ref a_is_sized)
  a_is_row : Addr
  f_is_row : FuncData
  F_is_row : Fun K "is_row" "is_row" s_is_row a_is_row f_is_row
  b_is_row : Binds K f_is_row ["thing"] []
  m_is_row : mg "is_row" = some (.ref a_is_row)
  a_is_chart : Addr
  f_is_chart : FuncData
  F_is_chart : Fun K "is_chart" "is_chart" s_is_chart a_is_chart f_is_chart
  b_is_chart : Binds K f_is_chart ["thing"] []
  m_is_chart : mg "is_chart" = some (.ref a_is_chart)
  a_check_chart : Addr
  f_check_chart : FuncData
  F_check_chart : Fun K "check_chart" "check_chart" s_check_chart a_check_chart f_check_chart
  b_check_chart : Binds K f_check_chart ["chart"] []
  m_check_chart : mg "check_chart" = some (.ref a_check_chart)
  a_undo : Addr
  f_undo : FuncData
  F_undo : Fun K "undo" "undo" s_undo a_undo f_undo
  b_undo : Binds K f_undo ["chart", "many"] []
  m_undo : mg "undo" = some (.ref a_undo)
  a_check_row : Addr
  f_check_row : FuncData
  F_check_row : Fun K "check_row" "check_row" s_check_row a_check_row f_check_row
  b_check_row : Binds K f_check_row ["row"] []
  m_check_row : mg "check_row" = some (.ref a_check_row)
  a_turn_stitches : Addr
  f_turn_stitches : FuncData
  F_turn_stitches : Fun K "turn_stitches" "turn_stitches" s_turn_stitches a_turn_stitches f_turn_stitches
  b_turn_stitches : Binds K f_turn_stitches ["row"] []
  m_turn_stitches : mg "turn_stitches" = some (.ref a_turn_stitches)
  a_law : Addr
  f_law : FuncData
  F_law : Fun K "law" "law" s_law a_law f_law
  b_law : Binds K f_law ["script"] []
  m_law : mg "law" = some (.ref a_law)
  u_MOST_LOOPS : Value
  v_MOST_LOOPS : V
  m_MOST_LOOPS : mg "MOST_LOOPS" = some u_MOST_LOOPS
  r_MOST_LOOPS : RelV v_MOST_LOOPS u_MOST_LOOPS
  d_MOST_LOOPS : ∀ F H, R ⟨K, mg, w⟩ F H D_MOST_LOOPS v_MOST_LOOPS
  u_MOST_SHAPED : Value
  v_MOST_SHAPED : V
  m_MOST_SHAPED : mg "MOST_SHAPED" = some u_MOST_SHAPED
  r_MOST_SHAPED : RelV v_MOST_SHAPED u_MOST_SHAPED
  d_MOST_SHAPED : ∀ F H, R ⟨K, mg, w⟩ F H D_MOST_SHAPED v_MOST_SHAPED
  u_FAR : Value
  v_FAR : V
  m_FAR : mg "FAR" = some u_FAR
  r_FAR : RelV v_FAR u_FAR
  d_FAR : ∀ F H, R ⟨K, mg, w⟩ F H D_FAR v_FAR
  u_ROWS : Value
  v_ROWS : V
  m_ROWS : mg "ROWS" = some u_ROWS
  r_ROWS : RelV v_ROWS u_ROWS
  d_ROWS : ∀ F H, R ⟨K, mg, w⟩ F H D_ROWS v_ROWS
  u_MOST_STITCHES : Value
  v_MOST_STITCHES : V
  m_MOST_STITCHES : mg "MOST_STITCHES" = some u_MOST_STITCHES
  r_MOST_STITCHES : RelV v_MOST_STITCHES u_MOST_STITCHES
  d_MOST_STITCHES : ∀ F H, R ⟨K, mg, w⟩ F H D_MOST_STITCHES v_MOST_STITCHES
  u_TAKES : Value
  v_TAKES : V
  m_TAKES : mg "TAKES" = some u_TAKES
  r_TAKES : RelV v_TAKES u_TAKES
  d_TAKES : ∀ F H, R ⟨K, mg, w⟩ F H D_TAKES v_TAKES
  u_MOST_ROWS : Value
  v_MOST_ROWS : V
  m_MOST_ROWS : mg "MOST_ROWS" = some u_MOST_ROWS
  r_MOST_ROWS : RelV v_MOST_ROWS u_MOST_ROWS
  d_MOST_ROWS : ∀ F H, R ⟨K, mg, w⟩ F H D_MOST_ROWS v_MOST_ROWS
  u_OTHERS : Value
  v_OTHERS : V
  m_OTHERS : mg "OTHERS" = some u_OTHERS
  r_OTHERS : RelV v_OTHERS u_OTHERS
  d_OTHERS : ∀ F H, R ⟨K, mg, w⟩ F H D_OTHERS v_OTHERS
  z_abs : mg "abs" = none
  z_int : mg "int" = none
  z_len : mg "len" = none
  z_sum : mg "sum" = none
  z_range : mg "range" = none
  z_tuple : mg "tuple" = none
  z_isinstance : mg "isinstance" = none
  z_list : mg "list" = none
  z_all : mg "all" = none
  z_zip : mg "zip" = none
  z_dict : mg "dict" = none
  z_str : mg "str" = none
  z_bool : mg "bool" = none
  z_max : mg "max" = none
  z_any : mg "any" = none
  z_min : mg "min" = none
section
variable {P : Program} {w : World} {K : PySem.W.Frag} {mg : Str → Option Value} {base : Heap}
theorem ok__law_hand (T : Tx K mg w) : FnOk P w K mg base (L2.CX P w) 1 T.a__law_hand T.f__law_hand ["script"] (spP ⟨K, mg, w⟩ true den__law_hand) := by
  refine fn_pureN (o := true) T.F__law_hand sc__law_hand rfl rfl (fb := body__law_hand) fun cdv A outer s H E hr => ⟨[], ?_⟩
  have tk : L2.Takes (cxF P w K mg base ["script", "cells", "cell"] "_law_hand" s__law_hand T.a__law_hand cdv A outer s H E) (WF E) := L2.takes_of rfl rfl rfl rfl
  exact (dss_cons (G1 := []) (ds_lcF (i := 1) (own := [("cell", 2)]) (fun _ _ _ h => xM_of h) rfl sc__law_hand.nd rfl rfl (by first | rfl | exact sw_true _ _ _ _ _ _ _ | decide) (di_val (dp_sl s_any (dp_var 0) dpo_none (dpo_some dp_int))) (blkOk_by (N := ["script", "cells", "cell"]) (sc := defScope s__law_hand) (own := [("cell", 2)]) (by decide +kernel)) (fun s H C cl fp => (dg_name (i := 2) sc__law_hand.nd rfl (by first | exact .inl rfl | exact .inr rfl))) (fun s H C cl fp => dts_nil) (fun s H C cl fp => (dp_callB (c_abs) (by rfl) T.z_abs bt_abs (da_cons (dp_callTy (c_int) (by rfl) T.z_int bt_int (da_cons (dp_var 2) da_nil)) da_nil)))) (dss_cons (G1 := []) (ds_ret (G1 := []) (dx_m (dp_lst (da_cons (dp_var 1) (da_cons dp_int (da_cons dp_int (da_cons (dp_op o_add dp_int (dp_op o_mul dp_int (dp_callB (c_len) (by rfl) T.z_len bt_len (da_cons (dp_var 1) da_nil)))) (da_cons dp_int da_nil)))))))) dss_nil))
theorem ok__law_draw (T : Tx K mg w) : FnOk P w K mg base (L2.CX P w) 1 T.a__law_draw T.f__law_draw ["hand", "many"] (spIO ⟨K, mg, w⟩ false den__law_draw) := by
  refine fn_ioN (o := false) T.F__law_draw sc__law_draw rfl rfl (fb := body__law_draw) fun cdv A outer s H E hr => ⟨[0], ?_⟩
  have tk : L2.Takes (cxF P w K mg base ["hand", "many", "cell", "figure", "number"] "_law_draw" s__law_draw T.a__law_draw cdv A outer s H E) (WF E) := L2.takes_of rfl rfl rfl rfl
  exact (dss_cons (G1 := [0]) (ds_if (G1 := [0]) (dxb_z (DW.dt (dw_and (dt_cmp (o_eq (hu64 hr)) (dp_ix (dp_var 0) dp_int) dp_int) (dw_and1 (dt_cmp o_lt (dp_ix (dp_var 0) dp_int) (dp_callB (c_len) (by rfl) T.z_len bt_len (da_cons (dp_ix (dp_var 0) dp_int) da_nil))))))) (dss_cons (G1 := [0]) (ds_set (i := 2) sc__law_draw.nd rfl (by first | exact .inl rfl | exact .inr rfl) (dx_z (dp_ix (dp_ix (dp_var 0) dp_int) (dp_ix (dp_var 0) dp_int)))) (dss_cons (G1 := [0]) (ds_put (i := 0) (G1 := [0]) (dx_z (dp_op o_add (dp_ix (dp_var 0) dp_int) dp_int)) (dx_m dp_int)) (dss_cons (G1 := [0]) (ds_put (i := 0) (G1 := [0]) (dx_z (dp_op o_mod (dp_callTy (c_int) (by rfl) T.z_int bt_int (da_cons (dp_op o_add (dp_op o_add (dp_op o_mul (dp_ix (dp_var 0) dp_int) dp_int) (dp_var 2)) dp_int) da_nil)) dp_int)) (dx_m dp_int)) (dss_cons (G1 := [0]) (ds_if (G1 := [0]) (dxb_z (dt_cmp o_ge (dp_var 2) (dp_op o_pow dp_int dp_int))) (dss_cons (G1 := [0]) (ds_put (i := 0) (G1 := [0]) (dx_m (dp_var 2)) (dx_m dp_int)) dss_nil) dss_nil) dss_nil)))) dss_nil) (dss_cons (G1 := [0]) (ds_if (G1 := [0]) (dxb_z (dt_cmp o_gt (dp_ix (dp_var 0) dp_int) dp_int)) (dss_cons (G1 := [0]) (ds_set (i := 3) sc__law_draw.nd rfl (by first | exact .inl rfl | exact .inr rfl) (dx_z (dp_op o_mod (dp_callTy (c_int) (by rfl) T.z_int bt_int (da_cons (dp_ix (dp_var 0) dp_int) da_nil)) (dp_var 1)))) (dss_cons (G1 := [0]) (ds_put (i := 0) (G1 := [0]) (dx_z (dp_op o_fdiv (dp_ix (dp_var 0) dp_int) (dp_var 1))) (dx_m dp_int)) (dss_cons (G1 := [0]) (ds_ret (G1 := [0]) (dx_m (dp_var 3))) dss_nil))) dss_nil) (dss_cons (G1 := [0]) (ds_put (i := 0) (G1 := [0]) (dx_z (dp_op o_add (dp_ix (dp_var 0) dp_int) dp_int)) (dx_m dp_int)) (dss_cons (G1 := [0]) (ds_set (i := 4) sc__law_draw.nd rfl (by first | exact .inl rfl | exact .inr rfl) (dx_z (dp_op o_mod (dp_callTy (c_int) (by rfl) T.z_int bt_int (da_cons (dp_op o_mul (dp_callTy (c_int) (by rfl) T.z_int bt_int (da_cons (dp_op o_add (dp_ix (dp_var 0) dp_int) (dp_op o_mul dp_int (dp_ix (dp_var 0) dp_int))) da_nil)) dp_int) da_nil)) dp_int))) (dss_cons (G1 := [0]) (ds_set (i := 4) sc__law_draw.nd rfl (by first | exact .inl rfl | exact .inr rfl) (dx_m (dp_op o_mod (dp_callTy (c_int) (by rfl) T.z_int bt_int (da_cons (dp_op o_mul (dp_var 4) (dp_op o_add (dp_op o_fdiv (dp_var 4) dp_int) dp_int)) da_nil)) dp_int))) (dss_cons (G1 := [0]) (ds_set (i := 4) sc__law_draw.nd rfl (by first | exact .inl rfl | exact .inr rfl) (dx_m (dp_op o_mod (dp_callTy (c_int) (by rfl) T.z_int bt_int (da_cons (dp_op o_mul (dp_var 4) (dp_op o_add (dp_op o_fdiv (dp_var 4) dp_int) dp_int)) da_nil)) dp_int))) (dss_cons (G1 := [0]) (ds_ret (G1 := [0]) (dx_m (dp_op o_mod (dp_callTy (c_int) (by rfl) T.z_int bt_int (da_cons (dp_op o_fdiv (dp_var 4) dp_int) da_nil)) (dp_var 1)))) dss_nil)))))))
theorem ok__law_numbers (T : Tx K mg w) : FnOk P w K mg base (L2.CX P w) 1 T.a__law_numbers T.f__law_numbers ["letter"] (spP ⟨K, mg, w⟩ false den__law_numbers) := by
  refine fn_pureN (o := false) T.F__law_numbers sc__law_numbers rfl rfl (fb := body__law_numbers) fun cdv A outer s H E hr => ⟨[], ?_⟩
  have tk : L2.Takes (cxF P w K mg base ["letter"] "_law_numbers" s__law_numbers T.a__law_numbers cdv A outer s H E) (WF E) := L2.takes_of rfl rfl rfl rfl
  exact (dss_cons (G1 := []) (ds_ret (G1 := []) (dx_m (dp_dget (dp_freeze (dp_disp (dpp_cons dp_str (dp_tup (da_cons dp_int (da_cons dp_int da_nil))) (dpp_cons dp_str (dp_tup (da_cons dp_int (da_cons dp_int da_nil))) (dpp_cons dp_str (dp_tup (da_cons dp_int (da_cons dp_int da_nil))) (dpp_cons dp_str (dp_tup (da_cons dp_int (da_cons dp_int da_nil))) (dpp_cons dp_str (dp_tup (da_cons dp_int (da_cons dp_int da_nil))) (dpp_cons dp_str (dp_tup (da_cons dp_int (da_cons dp_int da_nil))) dpp_nil)))))))) (da_cons (dp_var 0) (da_cons (dp_tup (da_cons dp_int (da_cons dp_int da_nil))) da_nil))))) dss_nil)
theorem ok__law_takes (T : Tx K mg w) : FnOk P w K mg base (L2.CX P w) 2 T.a__law_takes T.f__law_takes ["row"] (spP ⟨K, mg, w⟩ false den__law_takes) := by
  have G__law_numbers := ok__law_numbers (P := P) (base := base) T
  refine fn_pureN (o := false) T.F__law_takes sc__law_takes rfl rfl (fb := body__law_takes) fun cdv A outer s H E hr => ⟨[], ?_⟩
  have tk : L2.Takes (cxF P w K mg base ["row", "letter"] "_law_takes" s__law_takes T.a__law_takes cdv A outer s H E) (WF E) := L2.takes_of rfl rfl rfl rfl
  exact (dss_cons (G1 := []) (ds_ret (G1 := []) (dx_m (dp_callB (c_sum rfl) (by rfl) T.z_sum bt_sum (da_cons (dp_freeze (dp_lc (own := [("letter", 1)]) rfl sc__law_takes.nd (di_val (dp_var 0)) (blkOk_by (N := ["row", "letter"]) (sc := defScope s__law_takes) (own := [("letter", 1)]) (by decide +kernel)) (fun s H C cl fp => (dg_name (i := 1) sc__law_takes.nd rfl (by first | exact .inl rfl | exact .inr rfl))) (fun s H C cl fp => dts_nil) (fun s H C cl fp => (dp_ix (dp_call L2.takes0 G__law_numbers (hr.mono (by omega)) (by rfl) T.m__law_numbers T.F__law_numbers.kp T.b__law_numbers (da_cons (dp_var 1) da_nil)) dp_int)))) da_nil)))) dss_nil)
theorem ok__law_some (T : Tx K mg w) : FnOk P w K mg base (L2.CX P w) 2 T.a__law_some T.f__law_some ["hand", "things"] (spIO ⟨K, mg, w⟩ false den__law_some) := by
  have G__law_draw := ok__law_draw (P := P) (base := base) T
  refine fn_ioN (o := false) T.F__law_some sc__law_some rfl rfl (fb := body__law_some) fun cdv A outer s H E hr => ⟨[0], ?_⟩
  have tk : L2.Takes (cxF P w K mg base ["hand", "things"] "_law_some" s__law_some T.a__law_some cdv A outer s H E) (WF E) := L2.takes_of rfl rfl rfl rfl
  exact (dss_cons (G1 := [0]) (ds_ret (G1 := [0]) (dx_ix (G1 := [0]) (dx_m (dp_var 1)) (dx_callIO (i := 0) tk G__law_draw (hr.mono (by omega)) (by rfl) T.m__law_draw T.F__law_draw.kp T.b__law_draw (dxa_cons (G1 := [0]) (dx_m (dp_callB (c_len) (by rfl) T.z_len bt_len (da_cons (dp_var 1) da_nil))) dxa_nil)))) dss_nil)
theorem ok__law_row_for (T : Tx K mg w) : FnOk P w K mg base (L2.CX P w) 3 T.a__law_row_for T.f__law_row_for ["hand", "loops"] (spIO ⟨K, mg, w⟩ false den__law_row_for) := by
  have G__law_takes := ok__law_takes (P := P) (base := base) T
  have G__law_some := ok__law_some (P := P) (base := base) T
  have G__law_numbers := ok__law_numbers (P := P) (base := base) T
  refine fn_ioN (o := false) T.F__law_row_for sc__law_row_for rfl rfl (fb := body__law_row_for) fun cdv A outer s H E hr => ⟨[0], ?_⟩
  have tk : L2.Takes (cxF P w K mg base ["hand", "loops", "row", "left", "some", "letter", "one"] "_law_row_for" s__law_row_for T.a__law_row_for cdv A outer s H E) (WF E) := L2.takes_of rfl rfl rfl rfl
  exact (dss_cons (G1 := [0]) (ds_tg (G1 := [0]) (dg_tup rfl (dgs_cons (dg_name (i := 2) sc__law_row_for.nd rfl (by first | exact .inl rfl | exact .inr rfl)) (dgs_cons (dg_name (i := 3) sc__law_row_for.nd rfl (by first | exact .inl rfl | exact .inr rfl)) dgs_nil))) (dx_m (dp_tup (da_cons dp_str (da_cons (dp_var 1) da_nil))))) (dss_cons (G1 := [0]) (ds_while (passes_of rfl) (dxb_z (DW.dt (dw_and (dt_cmp o_gt (dp_var 3) dp_int) (dw_and1 (dt_cmp o_lt (dp_callB (c_len) (by rfl) T.z_len bt_len (da_cons (dp_var 2) da_nil)) dp_int))))) (dss_cons (G1 := [0]) (ds_lcF (i := 4) (own := [("letter", 5)]) (fun _ _ _ h => xM_of h) rfl sc__law_row_for.nd rfl rfl (by first | rfl | exact sw_true _ _ _ _ _ _ _ | decide) (di_val dp_str) (blkOk_by (N := ["hand", "loops", "row", "left", "some", "letter", "one"]) (sc := defScope s__law_row_for) (own := [("letter", 5)]) (by decide +kernel)) (fun s H C cl fp => (dg_name (i := 5) sc__law_row_for.nd rfl (by first | exact .inl rfl | exact .inr rfl))) (fun s H C cl fp => (dts_one (dt_cmp o_le (dp_ix (dp_call L2.takes0 G__law_numbers (hr.mono (by omega)) (by rfl) T.m__law_numbers T.F__law_numbers.kp T.b__law_numbers (da_cons (dp_var 5) da_nil)) dp_int) (dp_var 3)))) (fun s H C cl fp => (dp_var 5))) (dss_cons (G1 := [0]) (ds_set (i := 2) sc__law_row_for.nd rfl (by first | exact .inl rfl | exact .inr rfl) (dx_op (G1 := [0]) o_add (dx_m (dp_var 2)) (dx_if (G1 := [0]) (G2 := [0]) (dxb_z (dt_cmp o_lt (dp_callB (c_len) (by rfl) T.z_len bt_len (da_cons (dp_var 2) da_nil)) dp_int)) (dx_callIO (i := 0) tk G__law_some (hr.mono (by omega)) (by rfl) T.m__law_some T.F__law_some.kp T.b__law_some (dxa_cons (G1 := [0]) (dx_m (dp_var 4)) dxa_nil)) (dx_callIO (i := 0) tk G__law_some (hr.mono (by omega)) (by rfl) T.m__law_some T.F__law_some.kp T.b__law_some (dxa_cons (G1 := [0]) (dx_m (dp_freeze (dp_lc (own := [("one", 6)]) rfl sc__law_row_for.nd (di_val (dp_var 4)) (blkOk_by (N := ["hand", "loops", "row", "left", "some", "letter", "one"]) (sc := defScope s__law_row_for) (own := [("one", 6)]) (by decide +kernel)) (fun s H C cl fp => (dg_name (i := 6) sc__law_row_for.nd rfl (by first | exact .inl rfl | exact .inr rfl))) (fun s H C cl fp => (dts_one (dt_cmp (o_ne (hu64 hr)) (dp_var 6) dp_str))) (fun s H C cl fp => (dp_var 6))))) dxa_nil))))) (dss_cons (G1 := [0]) (ds_set (i := 3) sc__law_row_for.nd rfl (by first | exact .inl rfl | exact .inr rfl) (dx_m (dp_op o_sub (dp_var 1) (dp_call tk G__law_takes (hr.mono (by omega)) (by rfl) T.m__law_takes T.F__law_takes.kp T.b__law_takes (da_cons (dp_var 2) da_nil))))) dss_nil)))) (dss_cons (G1 := [0]) (ds_ret (G1 := [0]) (dx_m (dp_if (DW.dt (dw_and (dt_cmp (o_eq (hu64 hr)) (dp_var 3) dp_int) (dw_and1 (dt_cmp o_gt (dp_callB (c_len) (by rfl) T.z_len bt_len (da_cons (dp_var 2) da_nil)) dp_int)))) (dp_var 2) dp_non))) dss_nil)))
theorem ok__law_makes (T : Tx K mg w) : FnOk P w K mg base (L2.CX P w) 2 T.a__law_makes T.f__law_makes ["row"] (spP ⟨K, mg, w⟩ false den__law_makes) := by
  have G__law_numbers := ok__law_numbers (P := P) (base := base) T
  refine fn_pureN (o := false) T.F__law_makes sc__law_makes rfl rfl (fb := body__law_makes) fun cdv A outer s H E hr => ⟨[], ?_⟩
  have tk : L2.Takes (cxF P w K mg base ["row", "letter"] "_law_makes" s__law_makes T.a__law_makes cdv A outer s H E) (WF E) := L2.takes_of rfl rfl rfl rfl
  exact (dss_cons (G1 := []) (ds_ret (G1 := []) (dx_m (dp_callB (c_sum rfl) (by rfl) T.z_sum bt_sum (da_cons (dp_freeze (dp_lc (own := [("letter", 1)]) rfl sc__law_makes.nd (di_val (dp_var 0)) (blkOk_by (N := ["row", "letter"]) (sc := defScope s__law_makes) (own := [("letter", 1)]) (by decide +kernel)) (fun s H C cl fp => (dg_name (i := 1) sc__law_makes.nd rfl (by first | exact .inl rfl | exact .inr rfl))) (fun s H C cl fp => dts_nil) (fun s H C cl fp => (dp_ix (dp_call L2.takes0 G__law_numbers (hr.mono (by omega)) (by rfl) T.m__law_numbers T.F__law_numbers.kp T.b__law_numbers (da_cons (dp_var 1) da_nil)) dp_int)))) da_nil)))) dss_nil)
theorem ok__law_chart (T : Tx K mg w) : FnOk P w K mg base (L2.CX P w) 4 T.a__law_chart T.f__law_chart ["hand"] (spIO ⟨K, mg, w⟩ false den__law_chart) := by
  have G__law_row_for := ok__law_row_for (P := P) (base := base) T
  have G__law_draw := ok__law_draw (P := P) (base := base) T
  have G__law_makes := ok__law_makes (P := P) (base := base) T
  refine fn_ioN (o := false) T.F__law_chart sc__law_chart rfl rfl (fb := body__law_chart) fun cdv A outer s H E hr => ⟨[0], ?_⟩
  have tk : L2.Takes (cxF P w K mg base ["hand", "rows", "loops", "turn", "row"] "_law_chart" s__law_chart T.a__law_chart cdv A outer s H E) (WF E) := L2.takes_of rfl rfl rfl rfl
  exact (dss_cons (G1 := [1, 0]) (ds_parO (i := 1) (j := 2) rfl sc__law_chart.nd rfl rfl (by decide) rfl rfl (dx_m (dp_lst da_nil)) (fun _ => (dx_op (G1 := [0]) o_add (dx_m dp_int) (dx_callIO (i := 0) tk G__law_draw (hr.mono (by omega)) (by rfl) T.m__law_draw T.F__law_draw.kp T.b__law_draw (dxa_cons (G1 := [0]) (dx_m dp_int) dxa_nil)))) (by rfl)) (dss_cons (G1 := [1, 0]) (ds_for (G1 := [1, 0]) (G2 := [1, 0]) (passes_of rfl) rfl (dxi_range1 (by rfl) T.z_range (dxa_cons (G1 := [1, 0]) (dx_op (G1 := [1, 0]) o_add (dx_m dp_int) (dx_callIO (i := 0) tk G__law_draw (hr.mono (by omega)) (by rfl) T.m__law_draw T.F__law_draw.kp T.b__law_draw (dxa_cons (G1 := [1, 0]) (dx_m dp_int) dxa_nil))) dxa_nil)) (dg_name (i := 3) sc__law_chart.nd rfl (by first | exact .inl rfl | exact .inr rfl)) (dss_cons (G1 := [1, 0]) (ds_set (i := 4) sc__law_chart.nd rfl (by first | exact .inl rfl | exact .inr rfl) (dx_callIO (i := 0) tk G__law_row_for (hr.mono (by omega)) (by rfl) T.m__law_row_for T.F__law_row_for.kp T.b__law_row_for (dxa_cons (G1 := [1, 0]) (dx_m (dp_var 2)) dxa_nil))) (dss_cons (G1 := [1, 0]) (ds_if (G1 := [1, 0]) (dxb_z (dt_cmp o_isnot (dp_var 4) dp_non)) (dss_cons (G1 := [1, 0]) (ds_append (i := 1) (dxa_cons (G1 := [1, 0]) (dx_m (dp_var 4)) dxa_nil)) (dss_cons (G1 := [1, 0]) (ds_set (i := 2) sc__law_chart.nd rfl (by first | exact .inl rfl | exact .inr rfl) (dx_m (dp_call tk G__law_makes (hr.mono (by omega)) (by rfl) T.m__law_makes T.F__law_makes.kp T.b__law_makes (da_cons (dp_var 4) da_nil)))) dss_nil)) dss_nil) dss_nil))) (dss_cons (G1 := [0]) (ds_ret (G1 := [1, 0]) (dx_z (dp_if (dt_cmp o_gt (dp_callB (c_len) (by rfl) T.z_len bt_len (da_cons (dp_var 1) da_nil)) dp_int) (dp_callTy (c_tuple) (by rfl) T.z_tuple bt_tuple (da_cons (dp_var 1) da_nil)) (dp_tup (da_cons dp_str da_nil))))) dss_nil)))
theorem ok__law_is (T : Tx K mg w) : ∀ n : Nat, FnOk P w K mg base (L2.CX P w) (1 + n) T.a__law_is T.f__law_is ["told", "due"] (spP ⟨K, mg, w⟩ false (den__law_is n))
  | 0 => by
    show FnOk P w K mg base (L2.CX P w) (0 + 1) T.a__law_is T.f__law_is ["told", "due"] (spP ⟨K, mg, w⟩ false (denP false 2 5 fun _ => .bad))
    exact fn_pureN (k := 0) (o := false) (fb := fun _ => .bad) T.F__law_is sc__law_is rfl rfl fun cdv A outer s H E hr => ⟨[], dss_never _⟩
  | n + 1 => by
    have IH := ok__law_is T n
    show FnOk P w K mg base (L2.CX P w) (1 + n + 1) T.a__law_is T.f__law_is ["told", "due"] (spP ⟨K, mg, w⟩ false (denP false 2 5 (body__law_is (den__law_is n))))
    refine fn_pureN (k := 1 + n) (o := false) T.F__law_is sc__law_is rfl rfl (fb := body__law_is (den__law_is n)) fun cdv A outer s H E hr => ⟨[], ?_⟩
    have tk : L2.Takes (cxF P w K mg base ["told", "due", "one", "two", "key"] "_law_is" s__law_is T.a__law_is cdv A outer s H E) (WF E) := L2.takes_of rfl rfl rfl rfl
    exact (dss_cons (G1 := []) (ds_if (G1 := []) (dxb_z (dt_val (dp_isiT (ts := ["tuple", "list"]) (by rfl) T.z_isinstance bt_isinstance (dp_var 1) (pa_cons (pe_bltn (v := .ty "tuple") (by rfl) T.z_tuple bt_tuple rfl) (pa_cons (pe_bltn (v := .ty "list") (by rfl) T.z_list bt_list rfl) pa_nil))))) (dss_cons (G1 := []) (ds_if (G1 := []) (dxb_z (DW.dt (dw_or (dt_cmp (o_ne (hu64 hr)) (dp_callB (c_isi) (by rfl) T.z_isinstance bt_isinstance (da_cons (dp_var 0) (da_cons (dp_ty (by rfl) T.z_tuple bt_tuple) da_nil))) (dp_callB (c_isi) (by rfl) T.z_isinstance bt_isinstance (da_cons (dp_var 1) (da_cons (dp_ty (by rfl) T.z_tuple bt_tuple) da_nil)))) (dw_or1 (dt_not (dt_val (dp_isiT (ts := ["tuple", "list"]) (by rfl) T.z_isinstance bt_isinstance (dp_var 0) (pa_cons (pe_bltn (v := .ty "tuple") (by rfl) T.z_tuple bt_tuple rfl) (pa_cons (pe_bltn (v := .ty "list") (by rfl) T.z_list bt_list rfl) pa_nil))))))))) (dss_cons (G1 := []) (ds_ret (G1 := []) (dx_m dp_bl)) dss_nil) dss_nil) (dss_cons (G1 := []) (ds_ret (G1 := []) (dx_m (dp_and (dp_cmp (o_eq (hu64 hr)) (dp_callB (c_len) (by rfl) T.z_len bt_len (da_cons (dp_var 0) da_nil)) (dp_callB (c_len) (by rfl) T.z_len bt_len (da_cons (dp_var 1) da_nil))) (dp_one (dp_callB (c_all rfl) (by rfl) T.z_all bt_all (da_cons (dp_freeze (dp_lc (own := [("one", 2), ("two", 3)]) rfl sc__law_is.nd (di_zip (by rfl) T.z_zip (da_cons (dp_var 0) (da_cons (dp_var 1) da_nil))) (blkOk_by (N := ["told", "due", "one", "two", "key"]) (sc := defScope s__law_is) (own := [("one", 2), ("two", 3)]) (by decide +kernel)) (fun s H C cl fp => (dg_tup rfl (dgs_cons (dg_name (i := 2) sc__law_is.nd rfl (by first | exact .inl rfl | exact .inr rfl)) (dgs_cons (dg_name (i := 3) sc__law_is.nd rfl (by first | exact .inl rfl | exact .inr rfl)) dgs_nil)))) (fun s H C cl fp => dts_nil) (fun s H C cl fp => (dp_call L2.takes0 IH (hr.mono (by omega)) (by rfl) T.m__law_is T.F__law_is.kp T.b__law_is (da_cons (dp_var 2) (da_cons (dp_var 3) da_nil)))))) da_nil)))))) dss_nil)) dss_nil) (dss_cons (G1 := []) (ds_if (G1 := []) (dxb_z (dt_val (dp_callB (c_isi) (by rfl) T.z_isinstance bt_isinstance (da_cons (dp_var 1) (da_cons (dp_ty (by rfl) T.z_dict bt_dict) da_nil))))) (dss_cons (G1 := []) (ds_if (G1 := []) (dxb_z (DW.dt (dw_or (dt_not (dt_val (dp_callB (c_isi) (by rfl) T.z_isinstance bt_isinstance (da_cons (dp_var 0) (da_cons (dp_ty (by rfl) T.z_dict bt_dict) da_nil))))) (dw_or1 (dt_cmp (o_ne (hu64 hr)) (dp_callB (c_len) (by rfl) T.z_len bt_len (da_cons (dp_var 0) da_nil)) (dp_callB (c_len) (by rfl) T.z_len bt_len (da_cons (dp_var 1) da_nil))))))) (dss_cons (G1 := []) (ds_ret (G1 := []) (dx_m dp_bl)) dss_nil) dss_nil) (dss_cons (G1 := []) (ds_ret (G1 := []) (dx_m (dp_callB (c_all rfl) (by rfl) T.z_all bt_all (da_cons (dp_freeze (dp_lc (own := [("key", 4)]) rfl sc__law_is.nd (di_val (dp_var 1)) (blkOk_by (N := ["told", "due", "one", "two", "key"]) (sc := defScope s__law_is) (own := [("key", 4)]) (by decide +kernel)) (fun s H C cl fp => (dg_name (i := 4) sc__law_is.nd rfl (by first | exact .inl rfl | exact .inr rfl))) (fun s H C cl fp => dts_nil) (fun s H C cl fp => (dp_and (dp_cmp (o_in (hu65 hr)) (dp_var 4) (dp_var 0)) (dp_one (dp_call L2.takes0 IH (hr.mono (by omega)) (by rfl) T.m__law_is T.F__law_is.kp T.b__law_is (da_cons (dp_ix (dp_var 0) (dp_var 4)) (da_cons (dp_ix (dp_var 1) (dp_var 4)) da_nil)))))))) da_nil)))) dss_nil)) dss_nil) (dss_cons (G1 := []) (ds_if (G1 := []) (dxb_z (DW.dt (dw_or (dt_val (dp_callB (c_isi) (by rfl) T.z_isinstance bt_isinstance (da_cons (dp_var 1) (da_cons (dp_ty (by rfl) T.z_str bt_str) da_nil)))) (dw_or1 (dt_cmp o_is (dp_var 1) dp_non))))) (dss_cons (G1 := []) (ds_ret (G1 := []) (dx_m (dp_and (dp_cmp (o_eq (hu64 hr)) (dp_callB (c_isi) (by rfl) T.z_isinstance bt_isinstance (da_cons (dp_var 0) (da_cons (dp_ty (by rfl) T.z_str bt_str) da_nil))) (dp_callB (c_isi) (by rfl) T.z_isinstance bt_isinstance (da_cons (dp_var 1) (da_cons (dp_ty (by rfl) T.z_str bt_str) da_nil)))) (dp_one (dp_cmp (o_eq (hu64 hr)) (dp_var 0) (dp_var 1)))))) dss_nil) dss_nil) (dss_cons (G1 := []) (ds_ret (G1 := []) (dx_m (dp_and (dp_callB (c_isi) (by rfl) T.z_isinstance bt_isinstance (da_cons (dp_var 0) (da_cons (dp_ty (by rfl) T.z_int bt_int) da_nil))) (dp_and (dp_cmp (o_eq (hu64 hr)) (dp_callB (c_isi) (by rfl) T.z_isinstance bt_isinstance (da_cons (dp_var 0) (da_cons (dp_ty (by rfl) T.z_bool bt_bool) da_nil))) (dp_callB (c_isi) (by rfl) T.z_isinstance bt_isinstance (da_cons (dp_var 1) (da_cons (dp_ty (by rfl) T.z_bool bt_bool) da_nil)))) (dp_one (dp_cmp (o_eq (hu64 hr)) (dp_var 0) (dp_var 1))))))) dss_nil))))
theorem ok_is_integer (T : Tx K mg w) : FnOk P w K mg base (L2.CX P w) 1 T.a_is_integer T.f_is_integer ["thing"] (spP ⟨K, mg, w⟩ false den_is_integer) := by
  refine fn_pureN (o := false) T.F_is_integer sc_is_integer rfl rfl (fb := body_is_integer) fun cdv A outer s H E hr => ⟨[], ?_⟩
  have tk : L2.Takes (cxF P w K mg base ["thing"] "is_integer" s_is_integer T.a_is_integer cdv A outer s H E) (WF E) := L2.takes_of rfl rfl rfl rfl
  exact (dss_cons (G1 := []) (ds_ret (G1 := []) (dx_m (dp_and (dp_callB (c_isi) (by rfl) T.z_isinstance bt_isinstance (da_cons (dp_var 0) (da_cons (dp_ty (by rfl) T.z_int bt_int) da_nil))) (dp_one (dp_not (dp_callB (c_isi) (by rfl) T.z_isinstance bt_isinstance (da_cons (dp_var 0) (da_cons (dp_ty (by rfl) T.z_bool bt_bool) da_nil)))))))) dss_nil)
theorem ok_is_within (T : Tx K mg w) : FnOk P w K mg base (L2.CX P w) 2 T.a_is_within T.f_is_within ["thing", "low", "high"] (spP ⟨K, mg, w⟩ false den_is_within) := by
  have G_is_integer := ok_is_integer (P := P) (base := base) T
  refine fn_pureN (o := false) T.F_is_within sc_is_within rfl rfl (fb := body_is_within) fun cdv A outer s H E hr => ⟨[], ?_⟩
  have tk : L2.Takes (cxF P w K mg base ["thing", "low", "high"] "is_within" s_is_within T.a_is_within cdv A outer s H E) (WF E) := L2.takes_of rfl rfl rfl rfl
  exact (dss_cons (G1 := []) (ds_ret (G1 := []) (dx_m (dp_and (dp_call tk G_is_integer (hr.mono (by omega)) (by rfl) T.m_is_integer T.F_is_integer.kp T.b_is_integer (da_cons (dp_var 0) da_nil)) (dp_one (dp_chain o_le o_le (dp_var 1) (dp_var 0) (dp_var 2)))))) dss_nil)
theorem ok_shaped (T : Tx K mg w) : FnOk P w K mg base (L2.CX P w) 3 T.a_shaped T.f_shaped ["a", "b", "rows", "most"] (spP ⟨K, mg, w⟩ false den_shaped) := by
  have G_is_within := ok_is_within (P := P) (base := base) T
  refine fn_pureN (o := false) T.F_shaped sc_shaped rfl rfl (fb := body_shaped) fun cdv A outer s H E hr => ⟨[], ?_⟩
  have tk : L2.Takes (cxF P w K mg base ["a", "b", "rows", "most", "counts", "r", "one", "other"] "shaped" s_shaped T.a_shaped cdv A outer s H E) (WF E) := L2.takes_of rfl rfl rfl rfl
  exact (dss_cons (G1 := []) (ds_if (G1 := []) (dxb_z (DW.dt (dw_or (dt_not (dt_val (dp_call tk G_is_within (hr.mono (by omega)) (by rfl) T.m_is_within T.F_is_within.kp T.b_is_within (da_cons (dp_var 0) (da_cons dp_int (da_cons (dp_glob (by rfl) T.m_MOST_LOOPS T.r_MOST_LOOPS T.d_MOST_LOOPS) da_nil)))))) (dw_or1 (dt_not (dt_val (dp_call tk G_is_within (hr.mono (by omega)) (by rfl) T.m_is_within T.F_is_within.kp T.b_is_within (da_cons (dp_var 1) (da_cons dp_int (da_cons (dp_glob (by rfl) T.m_MOST_LOOPS T.r_MOST_LOOPS T.d_MOST_LOOPS) da_nil)))))))))) (dss_never _) dss_nil) (dss_cons (G1 := []) (ds_if (G1 := []) (dxb_z (DW.dt (dw_or (dt_not (dt_val (dp_call tk G_is_within (hr.mono (by omega)) (by rfl) T.m_is_within T.F_is_within.kp T.b_is_within (da_cons (dp_var 2) (da_cons dp_int (da_cons (dp_glob (by rfl) T.m_MOST_SHAPED T.r_MOST_SHAPED T.d_MOST_SHAPED) da_nil)))))) (dw_or1 (dt_not (dt_val (dp_call tk G_is_within (hr.mono (by omega)) (by rfl) T.m_is_within T.F_is_within.kp T.b_is_within (da_cons (dp_var 3) (da_cons dp_int (da_cons dp_int da_nil)))))))))) (dss_never _) dss_nil) (dss_cons (G1 := []) (ds_set (i := 4) sc_shaped.nd rfl (by first | exact .inl rfl | exact .inr rfl) (dx_m (dp_op o_add (dp_freeze (dp_lst (da_cons (dp_var 0) da_nil))) (dp_freeze (dp_lc (own := [("r", 5)]) rfl sc_shaped.nd (di_range2 (by rfl) T.z_range (da_cons dp_int (da_cons (dp_op o_add (dp_var 2) dp_int) da_nil))) (blkOk_by (N := ["a", "b", "rows", "most", "counts", "r", "one", "other"]) (sc := defScope s_shaped) (own := [("r", 5)]) (by decide +kernel)) (fun s H C cl fp => (dg_name (i := 5) sc_shaped.nd rfl (by first | exact .inl rfl | exact .inr rfl))) (fun s H C cl fp => dts_nil) (fun s H C cl fp => (dp_op o_add (dp_var 0) (dp_op o_fdiv (dp_op o_mul (dp_op o_sub (dp_var 1) (dp_var 0)) (dp_var 5)) (dp_callB (c_max rfl) (by rfl) T.z_max bt_max (da_cons dp_int (da_cons (dp_var 2) da_nil))))))))))) (dss_cons (G1 := []) (ds_if (G1 := []) (dxb_z (DW.dt (dw_or (dt_cmp (o_ne (hu64 hr)) (dp_ix (dp_var 4) (dp_neg dp_int)) (dp_var 1)) (dw_or1 (dt_val (dp_callB (c_any rfl) (by rfl) T.z_any bt_any (da_cons (dp_freeze (dp_lc (own := [("one", 6), ("other", 7)]) rfl sc_shaped.nd (di_zip (by rfl) T.z_zip (da_cons (dp_var 4) (da_cons (dp_sl s_any (dp_var 4) (dpo_some dp_int) dpo_none) da_nil))) (blkOk_by (N := ["a", "b", "rows", "most", "counts", "r", "one", "other"]) (sc := defScope s_shaped) (own := [("one", 6), ("other", 7)]) (by decide +kernel)) (fun s H C cl fp => (dg_tup rfl (dgs_cons (dg_name (i := 6) sc_shaped.nd rfl (by first | exact .inl rfl | exact .inr rfl)) (dgs_cons (dg_name (i := 7) sc_shaped.nd rfl (by first | exact .inl rfl | exact .inr rfl)) dgs_nil)))) (fun s H C cl fp => dts_nil) (fun s H C cl fp => (dp_cmp o_gt (dp_callB (c_abs) (by rfl) T.z_abs bt_abs (da_cons (dp_op o_sub (dp_var 6) (dp_var 7)) da_nil)) (dp_var 3))))) da_nil))))))) (dss_cons (G1 := []) (ds_ret (G1 := []) (dx_m (dp_tup (da_cons (dp_glob (by rfl) T.m_FAR T.r_FAR T.d_FAR) da_nil)))) dss_nil) dss_nil) (dss_cons (G1 := []) (ds_ret (G1 := []) (dx_m (dp_tup (da_cons (dp_glob (by rfl) T.m_ROWS T.r_ROWS T.d_ROWS) (da_cons (dp_callTy (c_tuple) (by rfl) T.z_tuple bt_tuple (da_cons (dp_sl s_any (dp_var 4) (dpo_some dp_int) dpo_none) da_nil)) da_nil))))) dss_nil)))))
theorem ok_even_places (T : Tx K mg w) : FnOk P w K mg base (L2.CX P w) 3 T.a_even_places T.f_even_places ["n", "k"] (spP ⟨K, mg, w⟩ false den_even_places) := by
  have G_is_within := ok_is_within (P := P) (base := base) T
  refine fn_pureN (o := false) T.F_even_places sc_even_places rfl rfl (fb := body_even_places) fun cdv A outer s H E hr => ⟨[], ?_⟩
  have tk : L2.Takes (cxF P w K mg base ["n", "k", "i"] "even_places" s_even_places T.a_even_places cdv A outer s H E) (WF E) := L2.takes_of rfl rfl rfl rfl
  exact (dss_cons (G1 := []) (ds_if (G1 := []) (dxb_z (DW.dt (dw_or (dt_not (dt_val (dp_call tk G_is_within (hr.mono (by omega)) (by rfl) T.m_is_within T.F_is_within.kp T.b_is_within (da_cons (dp_var 0) (da_cons dp_int (da_cons (dp_glob (by rfl) T.m_MOST_LOOPS T.r_MOST_LOOPS T.d_MOST_LOOPS) da_nil)))))) (dw_or1 (dt_not (dt_val (dp_call tk G_is_within (hr.mono (by omega)) (by rfl) T.m_is_within T.F_is_within.kp T.b_is_within (da_cons (dp_var 1) (da_cons dp_int (da_cons (dp_var 0) da_nil)))))))))) (dss_never _) dss_nil) (dss_cons (G1 := []) (ds_ret (G1 := []) (dx_m (dp_callTy (c_tuple) (by rfl) T.z_tuple bt_tuple (da_cons (dp_freeze (dp_lc (own := [("i", 2)]) rfl sc_even_places.nd (di_range1 (by rfl) T.z_range (da_cons (dp_var 1) da_nil)) (blkOk_by (N := ["n", "k", "i"]) (sc := defScope s_even_places) (own := [("i", 2)]) (by decide +kernel)) (fun s H C cl fp => (dg_name (i := 2) sc_even_places.nd rfl (by first | exact .inl rfl | exact .inr rfl))) (fun s H C cl fp => dts_nil) (fun s H C cl fp => (dp_op o_fdiv (dp_op o_mul (dp_op o_add (dp_op o_mul dp_int (dp_var 2)) dp_int) (dp_var 0)) (dp_op o_mul dp_int (dp_var 1)))))) da_nil)))) dss_nil))
theorem ok_is_sized (T : Tx K mg w) : FnOk P w K mg base (L2.CX P w) 1 T.a_is_sized T.f_is_sized ["thing", "low", "high"] (spP ⟨K, mg, w⟩ false den_is_sized) := by
  refine fn_pureN (o := false) T.F_is_sized sc_is_sized rfl rfl (fb := body_is_sized) fun cdv A outer s H E hr => ⟨[], ?_⟩
  have tk : L2.Takes (cxF P w K mg base ["thing", "low", "high"] "is_sized" s_is_sized T.a_is_sized cdv A outer s H E) (WF E) := L2.takes_of rfl rfl rfl rfl
  exact (dss_cons (G1 := []) (ds_ret (G1 := []) (dx_m (dp_and (dp_callB (c_isi) (by rfl) T.z_isinstance bt_isinstance (da_cons (dp_var 0) (da_cons (dp_ty (by rfl) T.z_tuple bt_tuple) da_nil))) (dp_one (dp_chain o_le o_le (dp_var 1) (dp_callB (c_len) (by rfl) T.z_len bt_len (da_cons (dp_var 0) da_nil)) (dp_var 2)))))) dss_nil)
theorem ok_is_row (T : Tx K mg w) : FnOk P w K mg base (L2.CX P w) 1 T.a_is_row T.f_is_row ["thing"] (spP ⟨K, mg, w⟩ false den_is_row) := by
  refine fn_pureN (o := false) T.F_is_row sc_is_row rfl rfl (fb := body_is_row) fun cdv A outer s H E hr => ⟨[], ?_⟩
  have tk : L2.Takes (cxF P w K mg base ["thing", "sign"] "is_row" s_is_row T.a_is_row cdv A outer s H E) (WF E) := L2.takes_of rfl rfl rfl rfl
  exact (dss_cons (G1 := []) (ds_ret (G1 := []) (dx_m (dp_and (dp_callB (c_isi) (by rfl) T.z_isinstance bt_isinstance (da_cons (dp_var 0) (da_cons (dp_ty (by rfl) T.z_str bt_str) da_nil))) (dp_and (dp_chain o_le o_le dp_int (dp_callB (c_len) (by rfl) T.z_len bt_len (da_cons (dp_var 0) da_nil)) (dp_glob (by rfl) T.m_MOST_STITCHES T.r_MOST_STITCHES T.d_MOST_STITCHES)) (dp_one (dp_callB (c_all rfl) (by rfl) T.z_all bt_all (da_cons (dp_freeze (dp_lc (own := [("sign", 1)]) rfl sc_is_row.nd (di_val (dp_var 0)) (blkOk_by (N := ["thing", "sign"]) (sc := defScope s_is_row) (own := [("sign", 1)]) (by decide +kernel)) (fun s H C cl fp => (dg_name (i := 1) sc_is_row.nd rfl (by first | exact .inl rfl | exact .inr rfl))) (fun s H C cl fp => dts_nil) (fun s H C cl fp => (dp_cmp (o_in (hu65 hr)) (dp_var 1) (dp_glob (by rfl) T.m_TAKES T.r_TAKES T.d_TAKES))))) da_nil))))))) dss_nil)
theorem ok_is_chart (T : Tx K mg w) : FnOk P w K mg base (L2.CX P w) 2 T.a_is_chart T.f_is_chart ["thing"] (spP ⟨K, mg, w⟩ false den_is_chart) := by
  have G_is_sized := ok_is_sized (P := P) (base := base) T
  have G_is_row := ok_is_row (P := P) (base := base) T
  refine fn_pureN (o := false) T.F_is_chart sc_is_chart rfl rfl (fb := body_is_chart) fun cdv A outer s H E hr => ⟨[], ?_⟩
  have tk : L2.Takes (cxF P w K mg base ["thing", "row"] "is_chart" s_is_chart T.a_is_chart cdv A outer s H E) (WF E) := L2.takes_of rfl rfl rfl rfl
  exact (dss_cons (G1 := []) (ds_ret (G1 := []) (dx_m (dp_and (dp_call tk G_is_sized (hr.mono (by omega)) (by rfl) T.m_is_sized T.F_is_sized.kp T.b_is_sized (da_cons (dp_var 0) (da_cons dp_int (da_cons (dp_glob (by rfl) T.m_MOST_ROWS T.r_MOST_ROWS T.d_MOST_ROWS) da_nil)))) (dp_one (dp_callB (c_all rfl) (by rfl) T.z_all bt_all (da_cons (dp_freeze (dp_lc (own := [("row", 1)]) rfl sc_is_chart.nd (di_val (dp_var 0)) (blkOk_by (N := ["thing", "row"]) (sc := defScope s_is_chart) (own := [("row", 1)]) (by decide +kernel)) (fun s H C cl fp => (dg_name (i := 1) sc_is_chart.nd rfl (by first | exact .inl rfl | exact .inr rfl))) (fun s H C cl fp => dts_nil) (fun s H C cl fp => (dp_call L2.takes0 G_is_row (hr.mono (by omega)) (by rfl) T.m_is_row T.F_is_row.kp T.b_is_row (da_cons (dp_var 1) da_nil))))) da_nil)))))) dss_nil)
theorem ok_check_chart (T : Tx K mg w) : FnOk P w K mg base (L2.CX P w) 3 T.a_check_chart T.f_check_chart ["chart"] (spP ⟨K, mg, w⟩ false den_check_chart) := by
  have G_is_chart := ok_is_chart (P := P) (base := base) T
  refine fn_pureN (o := false) T.F_check_chart sc_check_chart rfl rfl (fb := body_check_chart) fun cdv A outer s H E hr => ⟨[], ?_⟩
  have tk : L2.Takes (cxF P w K mg base ["chart"] "check_chart" s_check_chart T.a_check_chart cdv A outer s H E) (WF E) := L2.takes_of rfl rfl rfl rfl
  exact (dss_cons (G1 := []) (ds_if (G1 := []) (dxb_z (dt_not (dt_val (dp_call tk G_is_chart (hr.mono (by omega)) (by rfl) T.m_is_chart T.F_is_chart.kp T.b_is_chart (da_cons (dp_var 0) da_nil))))) (dss_never _) dss_nil) dss_nil)
theorem ok_undo (T : Tx K mg w) : FnOk P w K mg base (L2.CX P w) 4 T.a_undo T.f_undo ["chart", "many"] (spP ⟨K, mg, w⟩ false den_undo) := by
  have G_check_chart := ok_check_chart (P := P) (base := base) T
  have G_is_within := ok_is_within (P := P) (base := base) T
  refine fn_pureN (o := false) T.F_undo sc_undo rfl rfl (fb := body_undo) fun cdv A outer s H E hr => ⟨[], ?_⟩
  have tk : L2.Takes (cxF P w K mg base ["chart", "many"] "undo" s_undo T.a_undo cdv A outer s H E) (WF E) := L2.takes_of rfl rfl rfl rfl
  exact (dss_cons (G1 := []) (ds_expr (dx_m (dp_call tk G_check_chart (hr.mono (by omega)) (by rfl) T.m_check_chart T.F_check_chart.kp T.b_check_chart (da_cons (dp_var 0) da_nil)))) (dss_cons (G1 := []) (ds_if (G1 := []) (dxb_z (dt_not (dt_val (dp_call tk G_is_within (hr.mono (by omega)) (by rfl) T.m_is_within T.F_is_within.kp T.b_is_within (da_cons (dp_var 1) (da_cons dp_int (da_cons (dp_callB (c_len) (by rfl) T.z_len bt_len (da_cons (dp_var 0) da_nil)) da_nil))))))) (dss_never _) dss_nil) (dss_cons (G1 := []) (ds_ret (G1 := []) (dx_m (dp_sl s_any (dp_var 0) dpo_none (dpo_some (dp_op o_sub (dp_callB (c_len) (by rfl) T.z_len bt_len (da_cons (dp_var 0) da_nil)) (dp_var 1)))))) dss_nil)))
theorem ok_check_row (T : Tx K mg w) : FnOk P w K mg base (L2.CX P w) 2 T.a_check_row T.f_check_row ["row"] (spP ⟨K, mg, w⟩ false den_check_row) := by
  have G_is_row := ok_is_row (P := P) (base := base) T
  refine fn_pureN (o := false) T.F_check_row sc_check_row rfl rfl (fb := body_check_row) fun cdv A outer s H E hr => ⟨[], ?_⟩
  have tk : L2.Takes (cxF P w K mg base ["row"] "check_row" s_check_row T.a_check_row cdv A outer s H E) (WF E) := L2.takes_of rfl rfl rfl rfl
  exact (dss_cons (G1 := []) (ds_if (G1 := []) (dxb_z (dt_not (dt_val (dp_call tk G_is_row (hr.mono (by omega)) (by rfl) T.m_is_row T.F_is_row.kp T.b_is_row (da_cons (dp_var 0) da_nil))))) (dss_never _) dss_nil) dss_nil)
theorem ok_turn_stitches (T : Tx K mg w) : FnOk P w K mg base (L2.CX P w) 3 T.a_turn_stitches T.f_turn_stitches ["row"] (spP ⟨K, mg, w⟩ false den_turn_stitches) := by
  have G_check_row := ok_check_row (P := P) (base := base) T
  refine fn_pureN (o := false) T.F_turn_stitches sc_turn_stitches rfl rfl (fb := body_turn_stitches) fun cdv A outer s H E hr => ⟨[], ?_⟩
  have tk : L2.Takes (cxF P w K mg base ["row", "sign"] "turn_stitches" s_turn_stitches T.a_turn_stitches cdv A outer s H E) (WF E) := L2.takes_of rfl rfl rfl rfl
  exact (dss_cons (G1 := []) (ds_expr (dx_m (dp_call tk G_check_row (hr.mono (by omega)) (by rfl) T.m_check_row T.F_check_row.kp T.b_check_row (da_cons (dp_var 0) da_nil)))) (dss_cons (G1 := []) (ds_ret (G1 := []) (dx_m (dp_join dp_str (da_cons (dp_freeze (dp_lc (own := [("sign", 1)]) rfl sc_turn_stitches.nd (di_val (dp_rev (dp_var 0))) (blkOk_by (N := ["row", "sign"]) (sc := defScope s_turn_stitches) (own := [("sign", 1)]) (by decide +kernel)) (fun s H C cl fp => (dg_name (i := 1) sc_turn_stitches.nd rfl (by first | exact .inl rfl | exact .inr rfl))) (fun s H C cl fp => dts_nil) (fun s H C cl fp => (dp_dget (dp_glob (by rfl) T.m_OTHERS T.r_OTHERS T.d_OTHERS) (da_cons (dp_var 1) (da_cons (dp_var 1) da_nil)))))) da_nil)))) dss_nil))
theorem ok_law (T : Tx K mg w) : FnOk P w K mg base (L2.CX P w) 8 T.a_law T.f_law ["script"] (spP ⟨K, mg, w⟩ false den_law) := by
  have G__law_hand := ok__law_hand (P := P) (base := base) T
  have G__law_draw := ok__law_draw (P := P) (base := base) T
  have G__law_chart := ok__law_chart (P := P) (base := base) T
  have G__law_is := ok__law_is (P := P) (base := base) T 6
  have G_shaped := ok_shaped (P := P) (base := base) T
  have G_even_places := ok_even_places (P := P) (base := base) T
  have G_undo := ok_undo (P := P) (base := base) T
  have G_turn_stitches := ok_turn_stitches (P := P) (base := base) T
  refine fn_pureN (o := false) T.F_law sc_law rfl rfl (fb := body_law) fun cdv A outer s H E hr => ⟨[], ?_⟩
  have tk : L2.Takes (cxF P w K mg base ["script", "hand", "turn", "a", "b", "rows", "most", "counts", "r", "steps", "one", "other", "far", "n", "k", "places", "i", "gaps", "chart", "many", "row", "turned", "letter"] "law" s_law T.a_law cdv A outer s H E) (WF E) := L2.takes_of rfl rfl rfl rfl
  exact (dss_cons (G1 := [1]) (ds_own (i := 1) sc_law.nd rfl (by first | exact .inl rfl | exact .inr rfl) (dx_m (dp_call tk G__law_hand (hr.mono (by omega)) (by rfl) T.m__law_hand T.F__law_hand.kp T.b__law_hand (da_cons (dp_var 0) da_nil)))) (dss_cons (G1 := [1]) (ds_for (G1 := [1]) (G2 := [1]) (passes_of rfl) rfl (dxi_range1 (by rfl) T.z_range (dxa_cons (G1 := [1]) (dx_m dp_int) dxa_nil)) (dg_name (i := 2) sc_law.nd rfl (by first | exact .inl rfl | exact .inr rfl)) (dss_cons (G1 := [1]) (ds_tg (G1 := [1]) (dg_tup rfl (dgs_cons (dg_name (i := 3) sc_law.nd rfl (by first | exact .inl rfl | exact .inr rfl)) (dgs_cons (dg_name (i := 4) sc_law.nd rfl (by first | exact .inl rfl | exact .inr rfl)) dgs_nil))) (dx_tup (dxa_cons (G1 := [1]) (dx_op (G1 := [1]) o_add (dx_m dp_int) (dx_callIO (i := 1) tk G__law_draw (hr.mono (by omega)) (by rfl) T.m__law_draw T.F__law_draw.kp T.b__law_draw (dxa_cons (G1 := [1]) (dx_m dp_int) dxa_nil))) (dxa_cons (G1 := [1]) (dx_op (G1 := [1]) o_add (dx_m dp_int) (dx_callIO (i := 1) tk G__law_draw (hr.mono (by omega)) (by rfl) T.m__law_draw T.F__law_draw.kp T.b__law_draw (dxa_cons (G1 := [1]) (dx_m dp_int) dxa_nil))) dxa_nil)))) (dss_cons (G1 := [1]) (ds_tg (G1 := [1]) (dg_tup rfl (dgs_cons (dg_name (i := 5) sc_law.nd rfl (by first | exact .inl rfl | exact .inr rfl)) (dgs_cons (dg_name (i := 6) sc_law.nd rfl (by first | exact .inl rfl | exact .inr rfl)) dgs_nil))) (dx_tup (dxa_cons (G1 := [1]) (dx_callIO (i := 1) tk G__law_draw (hr.mono (by omega)) (by rfl) T.m__law_draw T.F__law_draw.kp T.b__law_draw (dxa_cons (G1 := [1]) (dx_m dp_int) dxa_nil)) (dxa_cons (G1 := [1]) (dx_op (G1 := [1]) o_add (dx_m dp_int) (dx_callIO (i := 1) tk G__law_draw (hr.mono (by omega)) (by rfl) T.m__law_draw T.F__law_draw.kp T.b__law_draw (dxa_cons (G1 := [1]) (dx_m dp_int) dxa_nil))) dxa_nil)))) (dss_cons (G1 := [1]) (ds_if (G1 := [1]) (dxb_cmp (G1 := [1]) (o_eq (hu64 hr)) (dx_callIO (i := 1) tk G__law_draw (hr.mono (by omega)) (by rfl) T.m__law_draw T.F__law_draw.kp T.b__law_draw (dxa_cons (G1 := [1]) (dx_m dp_int) dxa_nil)) (dx_m dp_int)) (dss_cons (G1 := [1]) (ds_set (i := 4) sc_law.nd rfl (by first | exact .inl rfl | exact .inr rfl) (dx_callB (c_max rfl) (by rfl) T.z_max bt_max (dxa_cons (G1 := [1]) (dx_m dp_int) (dxa_cons (G1 := [1]) (dx_callB (c_min rfl) (by rfl) T.z_min bt_min (dxa_cons (G1 := [1]) (dx_m dp_int) (dxa_cons (G1 := [1]) (dx_op (G1 := [1]) o_sub (dx_op (G1 := [1]) o_add (dx_m (dp_var 3)) (dx_callIO (i := 1) tk G__law_draw (hr.mono (by omega)) (by rfl) T.m__law_draw T.F__law_draw.kp T.b__law_draw (dxa_cons (G1 := [1]) (dx_m dp_int) dxa_nil))) (dx_m dp_int)) dxa_nil))) dxa_nil)))) dss_nil) dss_nil) (dss_cons (G1 := [1]) (ds_set (i := 7) sc_law.nd rfl (by first | exact .inl rfl | exact .inr rfl) (dx_m (dp_if (dt_cmp o_gt (dp_var 5) dp_int) (dp_freeze (dp_lc (own := [("r", 8)]) rfl sc_law.nd (di_range2 (by rfl) T.z_range (da_cons dp_int (da_cons (dp_op o_add (dp_var 5) dp_int) da_nil))) (blkOk_by (N := ["script", "hand", "turn", "a", "b", "rows", "most", "counts", "r", "steps", "one", "other", "far", "n", "k", "places", "i", "gaps", "chart", "many", "row", "turned", "letter"]) (sc := defScope s_law) (own := [("r", 8)]) (by decide +kernel)) (fun s H C cl fp => (dg_name (i := 8) sc_law.nd rfl (by first | exact .inl rfl | exact .inr rfl))) (fun s H C cl fp => dts_nil) (fun s H C cl fp => (dp_op o_add (dp_var 3) (dp_op o_fdiv (dp_op o_mul (dp_op o_sub (dp_var 4) (dp_var 3)) (dp_var 8)) (dp_var 5)))))) (dp_freeze (dp_lst da_nil))))) (dss_cons (G1 := [1]) (ds_lcF (i := 9) (own := [("one", 10), ("other", 11)]) (fun _ _ _ h => xM_of h) rfl sc_law.nd rfl rfl (by first | rfl | exact sw_true _ _ _ _ _ _ _ | decide) (di_zip (by rfl) T.z_zip (da_cons (dp_op o_add (dp_freeze (dp_lst (da_cons (dp_var 3) da_nil))) (dp_var 7)) (da_cons (dp_var 7) da_nil))) (blkOk_by (N := ["script", "hand", "turn", "a", "b", "rows", "most", "counts", "r", "steps", "one", "other", "far", "n", "k", "places", "i", "gaps", "chart", "many", "row", "turned", "letter"]) (sc := defScope s_law) (own := [("one", 10), ("other", 11)]) (by decide +kernel)) (fun s H C cl fp => (dg_tup rfl (dgs_cons (dg_name (i := 10) sc_law.nd rfl (by first | exact .inl rfl | exact .inr rfl)) (dgs_cons (dg_name (i := 11) sc_law.nd rfl (by first | exact .inl rfl | exact .inr rfl)) dgs_nil)))) (fun s H C cl fp => dts_nil) (fun s H C cl fp => (dp_callB (c_abs) (by rfl) T.z_abs bt_abs (da_cons (dp_op o_sub (dp_var 10) (dp_var 11)) da_nil)))) (dss_cons (G1 := [1]) (ds_set (i := 12) sc_law.nd rfl (by first | exact .inl rfl | exact .inr rfl) (dx_m (dp_or (dp_cmp o_gt (dp_callB (c_max rfl) (by rfl) T.z_max bt_max (da_cons (dp_op o_add (dp_freeze (dp_lst (da_cons dp_int da_nil))) (dp_var 9)) da_nil)) (dp_var 6)) (dp_one (dp_and (dp_cmp (o_eq (hu64 hr)) (dp_var 5) dp_int) (dp_one (dp_cmp (o_ne (hu64 hr)) (dp_var 3) (dp_var 4)))))))) (dss_cons (G1 := [1]) (ds_if (G1 := [1]) (dxb_z (dt_not (dt_val (dp_call tk G__law_is (hr.mono (by omega)) (by rfl) T.m__law_is T.F__law_is.kp T.b__law_is (da_cons (dp_call tk G_shaped (hr.mono (by omega)) (by rfl) T.m_shaped T.F_shaped.kp T.b_shaped (da_cons (dp_var 3) (da_cons (dp_var 4) (da_cons (dp_var 5) (da_cons (dp_var 6) da_nil))))) (da_cons (dp_if (dt_val (dp_var 12)) (dp_tup (da_cons dp_str da_nil)) (dp_tup (da_cons dp_str (da_cons (dp_callTy (c_tuple) (by rfl) T.z_tuple bt_tuple (da_cons (dp_var 7) da_nil)) da_nil)))) da_nil)))))) (dss_cons (G1 := [1]) (ds_ret (G1 := [1]) (dx_m dp_bl)) dss_nil) dss_nil) (dss_cons (G1 := [1]) (ds_set (i := 13) sc_law.nd rfl (by first | exact .inl rfl | exact .inr rfl) (dx_op (G1 := [1]) o_add (dx_m dp_int) (dx_callIO (i := 1) tk G__law_draw (hr.mono (by omega)) (by rfl) T.m__law_draw T.F__law_draw.kp T.b__law_draw (dxa_cons (G1 := [1]) (dx_m dp_int) dxa_nil)))) (dss_cons (G1 := [1]) (ds_set (i := 14) sc_law.nd rfl (by first | exact .inl rfl | exact .inr rfl) (dx_callIO (i := 1) tk G__law_draw (hr.mono (by omega)) (by rfl) T.m__law_draw T.F__law_draw.kp T.b__law_draw (dxa_cons (G1 := [1]) (dx_m (dp_op o_add (dp_var 13) dp_int)) dxa_nil))) (dss_cons (G1 := [1]) (ds_set (i := 15) sc_law.nd rfl (by first | exact .inl rfl | exact .inr rfl) (dx_m (dp_callTy (c_tuple) (by rfl) T.z_tuple bt_tuple (da_cons (dp_freeze (dp_lc (own := [("i", 16)]) rfl sc_law.nd (di_range1 (by rfl) T.z_range (da_cons (dp_var 14) da_nil)) (blkOk_by (N := ["script", "hand", "turn", "a", "b", "rows", "most", "counts", "r", "steps", "one", "other", "far", "n", "k", "places", "i", "gaps", "chart", "many", "row", "turned", "letter"]) (sc := defScope s_law) (own := [("i", 16)]) (by decide +kernel)) (fun s H C cl fp => (dg_name (i := 16) sc_law.nd rfl (by first | exact .inl rfl | exact .inr rfl))) (fun s H C cl fp => dts_nil) (fun s H C cl fp => (dp_op o_fdiv (dp_op o_mul (dp_op o_add (dp_op o_mul dp_int (dp_var 16)) dp_int) (dp_var 13)) (dp_op o_mul dp_int (dp_var 14)))))) da_nil)))) (dss_cons (G1 := [1]) (ds_if (G1 := [1]) (dxb_z (dt_not (dt_val (dp_call tk G__law_is (hr.mono (by omega)) (by rfl) T.m__law_is T.F__law_is.kp T.b__law_is (da_cons (dp_call tk G_even_places (hr.mono (by omega)) (by rfl) T.m_even_places T.F_even_places.kp T.b_even_places (da_cons (dp_var 13) (da_cons (dp_var 14) da_nil))) (da_cons (dp_var 15) da_nil)))))) (dss_cons (G1 := [1]) (ds_ret (G1 := [1]) (dx_m dp_bl)) dss_nil) dss_nil) (dss_cons (G1 := [1]) (ds_lcF (i := 17) (own := [("one", 10), ("other", 11)]) (fun _ _ _ h => xM_of h) rfl sc_law.nd rfl rfl (by first | rfl | exact sw_true _ _ _ _ _ _ _ | decide) (di_zip (by rfl) T.z_zip (da_cons (dp_var 15) (da_cons (dp_sl s_any (dp_var 15) (dpo_some dp_int) dpo_none) da_nil))) (blkOk_by (N := ["script", "hand", "turn", "a", "b", "rows", "most", "counts", "r", "steps", "one", "other", "far", "n", "k", "places", "i", "gaps", "chart", "many", "row", "turned", "letter"]) (sc := defScope s_law) (own := [("one", 10), ("other", 11)]) (by decide +kernel)) (fun s H C cl fp => (dg_tup rfl (dgs_cons (dg_name (i := 10) sc_law.nd rfl (by first | exact .inl rfl | exact .inr rfl)) (dgs_cons (dg_name (i := 11) sc_law.nd rfl (by first | exact .inl rfl | exact .inr rfl)) dgs_nil)))) (fun s H C cl fp => dts_nil) (fun s H C cl fp => (dp_op o_sub (dp_var 11) (dp_var 10)))) (dss_cons (G1 := [1]) (ds_if (G1 := [1]) (dxb_z (DW.dt (dw_and (dt_cmp o_gt (dp_callB (c_len) (by rfl) T.z_len bt_len (da_cons (dp_var 17) da_nil)) dp_int) (dw_and1 (dt_cmp o_gt (dp_op o_sub (dp_callB (c_max rfl) (by rfl) T.z_max bt_max (da_cons (dp_var 17) da_nil)) (dp_callB (c_min rfl) (by rfl) T.z_min bt_min (da_cons (dp_var 17) da_nil))) dp_int))))) (dss_cons (G1 := [1]) (ds_ret (G1 := [1]) (dx_m dp_bl)) dss_nil) dss_nil) (dss_cons (G1 := [1]) (ds_set (i := 18) sc_law.nd rfl (by first | exact .inl rfl | exact .inr rfl) (dx_callIO (i := 1) tk G__law_chart (hr.mono (by omega)) (by rfl) T.m__law_chart T.F__law_chart.kp T.b__law_chart dxa_nil)) (dss_cons (G1 := [1]) (ds_set (i := 19) sc_law.nd rfl (by first | exact .inl rfl | exact .inr rfl) (dx_callIO (i := 1) tk G__law_draw (hr.mono (by omega)) (by rfl) T.m__law_draw T.F__law_draw.kp T.b__law_draw (dxa_cons (G1 := [1]) (dx_m (dp_op o_add (dp_callB (c_len) (by rfl) T.z_len bt_len (da_cons (dp_var 18) da_nil)) dp_int)) dxa_nil))) (dss_cons (G1 := [1]) (ds_if (G1 := [1]) (dxb_z (dt_not (dt_val (dp_call tk G__law_is (hr.mono (by omega)) (by rfl) T.m__law_is T.F__law_is.kp T.b__law_is (da_cons (dp_call tk G_undo (hr.mono (by omega)) (by rfl) T.m_undo T.F_undo.kp T.b_undo (da_cons (dp_var 18) (da_cons (dp_var 19) da_nil))) (da_cons (dp_sl s_any (dp_var 18) dpo_none (dpo_some (dp_op o_sub (dp_callB (c_len) (by rfl) T.z_len bt_len (da_cons (dp_var 18) da_nil)) (dp_var 19)))) da_nil)))))) (dss_cons (G1 := [1]) (ds_ret (G1 := [1]) (dx_m dp_bl)) dss_nil) dss_nil) (dss_cons (G1 := [1]) (ds_for (G1 := [1]) (G2 := [1]) (passes_of rfl) rfl (dxi_val (dx_m (dp_var 18))) (dg_name (i := 20) sc_law.nd rfl (by first | exact .inl rfl | exact .inr rfl)) (dss_cons (G1 := [1]) (ds_set (i := 21) sc_law.nd rfl (by first | exact .inl rfl | exact .inr rfl) (dx_m (dp_join dp_str (da_cons (dp_freeze (dp_lc (own := [("letter", 22)]) rfl sc_law.nd (di_val (dp_rev (dp_var 20))) (blkOk_by (N := ["script", "hand", "turn", "a", "b", "rows", "most", "counts", "r", "steps", "one", "other", "far", "n", "k", "places", "i", "gaps", "chart", "many", "row", "turned", "letter"]) (sc := defScope s_law) (own := [("letter", 22)]) (by decide +kernel)) (fun s H C cl fp => (dg_name (i := 22) sc_law.nd rfl (by first | exact .inl rfl | exact .inr rfl))) (fun s H C cl fp => dts_nil) (fun s H C cl fp => (dp_dget (dp_freeze (dp_disp (dpp_cons dp_str dp_str (dpp_cons dp_str dp_str (dpp_cons dp_str dp_str (dpp_cons dp_str dp_str dpp_nil)))))) (da_cons (dp_var 22) (da_cons (dp_var 22) da_nil)))))) da_nil)))) (dss_cons (G1 := [1]) (ds_if (G1 := [1]) (dxb_z (DW.dt (dw_or (dt_not (dt_val (dp_call tk G__law_is (hr.mono (by omega)) (by rfl) T.m__law_is T.F__law_is.kp T.b__law_is (da_cons (dp_call tk G_turn_stitches (hr.mono (by omega)) (by rfl) T.m_turn_stitches T.F_turn_stitches.kp T.b_turn_stitches (da_cons (dp_var 20) da_nil)) (da_cons (dp_var 21) da_nil))))) (dw_or1 (dt_cmp (o_ne (hu64 hr)) (dp_call tk G_turn_stitches (hr.mono (by omega)) (by rfl) T.m_turn_stitches T.F_turn_stitches.kp T.b_turn_stitches (da_cons (dp_var 21) da_nil)) (dp_var 20)))))) (dss_cons (G1 := [1]) (ds_ret (G1 := [1]) (dx_m dp_bl)) dss_nil) dss_nil) dss_nil))) dss_nil)))))))))))))))))) (dss_cons (G1 := []) (ds_ret (G1 := [1]) (dx_m dp_bl)) dss_nil)))
theorem all_mk {h : Heap} {fa : Addr} (X : K.In h) (G : h.Ns mainGlobals mg) (hfa : mg "law" = some (.ref fa))
    {A27 : Addr} {oc27 kV27 dc27 pm27 cd27 ct27 : Value} {od27 an27 : Option Addr} {sl27 : Array (Option Value)}
    {A28 : Addr} {oc28 kV28 dc28 pm28 cd28 ct28 : Value} {od28 an28 : Option Addr} {sl28 : Array (Option Value)}
    {A30 : Addr} {oc30 kV30 dc30 pm30 cd30 ct30 : Value} {od30 an30 : Option Addr} {sl30 : Array (Option Value)}
    {A31 : Addr} {oc31 kV31 dc31 pm31 cd31 ct31 : Value} {od31 an31 : Option Addr} {sl31 : Array (Option Value)}
    {A29 : Addr} {oc29 kV29 dc29 pm29 cd29 ct29 : Value} {od29 an29 : Option Addr} {sl29 : Array (Option Value)}
    {A33 : Addr} {oc33 kV33 dc33 pm33 cd33 ct33 : Value} {od33 an33 : Option Addr} {sl33 : Array (Option Value)}
    {A32 : Addr} {oc32 kV32 dc32 pm32 cd32 ct32 : Value} {od32 an32 : Option Addr} {sl32 : Array (Option Value)}
    {A34 : Addr} {oc34 kV34 dc34 pm34 cd34 ct34 : Value} {od34 an34 : Option Addr} {sl34 : Array (Option Value)}
    {A35 : Addr} {oc35 kV35 dc35 pm35 cd35 ct35 : Value} {od35 an35 : Option Addr} {sl35 : Array (Option Value)}
    {A1 : Addr} {oc1 kV1 dc1 pm1 cd1 ct1 : Value} {od1 an1 : Option Addr} {sl1 : Array (Option Value)}
    {A2 : Addr} {oc2 kV2 dc2 pm2 cd2 ct2 : Value} {od2 an2 : Option Addr} {sl2 : Array (Option Value)}
    {A22 : Addr} {oc22 kV22 dc22 pm22 cd22 ct22 : Value} {od22 an22 : Option Addr} {sl22 : Array (Option Value)}
    {A23 : Addr} {oc23 kV23 dc23 pm23 cd23 ct23 : Value} {od23 an23 : Option Addr} {sl23 : Array (Option Value)}
    {A3 : Addr} {oc3 kV3 dc3 pm3 cd3 ct3 : Value} {od3 an3 : Option Addr} {sl3 : Array (Option Value)}
    {A18 : Addr} {oc18 kV18 dc18 pm18 cd18 ct18 : Value} {od18 an18 : Option Addr} {sl18 : Array (Option Value)}
    {A20 : Addr} {oc20 kV20 dc20 pm20 cd20 ct20 : Value} {od20 an20 : Option Addr} {sl20 : Array (Option Value)}
    {A21 : Addr} {oc21 kV21 dc21 pm21 cd21 ct21 : Value} {od21 an21 : Option Addr} {sl21 : Array (Option Value)}
    {A24 : Addr} {oc24 kV24 dc24 pm24 cd24 ct24 : Value} {od24 an24 : Option Addr} {sl24 : Array (Option Value)}
    {A19 : Addr} {oc19 kV19 dc19 pm19 cd19 ct19 : Value} {od19 an19 : Option Addr} {sl19 : Array (Option Value)}
    {A25 : Addr} {oc25 kV25 dc25 pm25 cd25 ct25 : Value} {od25 an25 : Option Addr} {sl25 : Array (Option Value)}
    {A36 : Addr} {oc36 kV36 dc36 pm36 cd36 ct36 : Value} {od36 an36 : Option Addr} {sl36 : Array (Option Value)}
    {tqq0 : Tok}
    {tqq1 : Tok}
    {tqq2 : Tok}
    {tqq3 : Tok}
    {tqq4 : Tok}
    {Aqq5 : Addr} {nqq5 : Nat} {tqq5_0 uqq5_0 tqq5_1 uqq5_1 tqq5_2 uqq5_2 tqq5_3 uqq5_3 tqq5_4 uqq5_4 tqq5_5 uqq5_5 tqq5_6 uqq5_6 tqq5_7 uqq5_7 : Tok} {hqq5_0 hqq5_1 hqq5_2 hqq5_3 hqq5_4 hqq5_5 hqq5_6 hqq5_7 : Int}
    {tqq6 : Tok}
    {Aqq7 : Addr} {nqq7 : Nat} {tqq7_0 uqq7_0 tqq7_1 uqq7_1 tqq7_2 uqq7_2 tqq7_3 uqq7_3 : Tok} {hqq7_0 hqq7_1 hqq7_2 hqq7_3 : Int}
    (a27 : PySem.W.nsIn K mainGlobals "_law_hand" = some (some (.ref A27))) (l27 : K.lookup A27 = some ⟨oc27, od27, .func (PySem.W.fnOf "_law_hand" "_law_hand" (defArgs s__law_hand) (defBody s__law_hand) (defScope s__law_hand) .none kV27 dc27 pm27 an27 cd27 ct27), sl27⟩) (c27 : PySem.W.codeIn K cd27 "_law_hand" = true) (k27 : PySem.W.keepIn K (.ref A27) = true)
    (a28 : PySem.W.nsIn K mainGlobals "_law_draw" = some (some (.ref A28))) (l28 : K.lookup A28 = some ⟨oc28, od28, .func (PySem.W.fnOf "_law_draw" "_law_draw" (defArgs s__law_draw) (defBody s__law_draw) (defScope s__law_draw) .none kV28 dc28 pm28 an28 cd28 ct28), sl28⟩) (c28 : PySem.W.codeIn K cd28 "_law_draw" = true) (k28 : PySem.W.keepIn K (.ref A28) = true)
    (a30 : PySem.W.nsIn K mainGlobals "_law_numbers" = some (some (.ref A30))) (l30 : K.lookup A30 = some ⟨oc30, od30, .func (PySem.W.fnOf "_law_numbers" "_law_numbers" (defArgs s__law_numbers) (defBody s__law_numbers) (defScope s__law_numbers) .none kV30 dc30 pm30 an30 cd30 ct30), sl30⟩) (c30 : PySem.W.codeIn K cd30 "_law_numbers" = true) (k30 : PySem.W.keepIn K (.ref A30) = true)
    (a31 : PySem.W.nsIn K mainGlobals "_law_takes" = some (some (.ref A31))) (l31 : K.lookup A31 = some ⟨oc31, od31, .func (PySem.W.fnOf "_law_takes" "_law_takes" (defArgs s__law_takes) (defBody s__law_takes) (defScope s__law_takes) .none kV31 dc31 pm31 an31 cd31 ct31), sl31⟩) (c31 : PySem.W.codeIn K cd31 "_law_takes" = true) (k31 : PySem.W.keepIn K (.ref A31) = true)
    (a29 : PySem.W.nsIn K mainGlobals "_law_some" = some (some (.ref A29))) (l29 : K.lookup A29 = some ⟨oc29, od29, .func (PySem.W.fnOf "_law_some" "_law_some" (defArgs s__law_some) (defBody s__law_some) (defScope s__law_some) .none kV29 dc29 pm29 an29 cd29 ct29), sl29⟩) (c29 : PySem.W.codeIn K cd29 "_law_some" = true) (k29 : PySem.W.keepIn K (.ref A29) = true)
    (a33 : PySem.W.nsIn K mainGlobals "_law_row_for" = some (some (.ref A33))) (l33 : K.lookup A33 = some ⟨oc33, od33, .func (PySem.W.fnOf "_law_row_for" "_law_row_for" (defArgs s__law_row_for) (defBody s__law_row_for) (defScope s__law_row_for) .none kV33 dc33 pm33 an33 cd33 ct33), sl33⟩) (c33 : PySem.W.codeIn K cd33 "_law_row_for" = true) (k33 : PySem.W.keepIn K (.ref A33) = true)
    (a32 : PySem.W.nsIn K mainGlobals "_law_makes" = some (some (.ref A32))) (l32 : K.lookup A32 = some ⟨oc32, od32, .func (PySem.W.fnOf "_law_makes" "_law_makes" (defArgs s__law_makes) (defBody s__law_makes) (defScope s__law_makes) .none kV32 dc32 pm32 an32 cd32 ct32), sl32⟩) (c32 : PySem.W.codeIn K cd32 "_law_makes" = true) (k32 : PySem.W.keepIn K (.ref A32) = true)
    (a34 : PySem.W.nsIn K mainGlobals "_law_chart" = some (some (.ref A34))) (l34 : K.lookup A34 = some ⟨oc34, od34, .func (PySem.W.fnOf "_law_chart" "_law_chart" (defArgs s__law_chart) (defBody s__law_chart) (defScope s__law_chart) .none kV34 dc34 pm34 an34 cd34 ct34), sl34⟩) (c34 : PySem.W.codeIn K cd34 "_law_chart" = true) (k34 : PySem.W.keepIn K (.ref A34) = true)
    (a35 : PySem.W.nsIn K mainGlobals "_law_is" = some (some (.ref A35))) (l35 : K.lookup A35 = some ⟨oc35, od35, .func (PySem.W.fnOf "_law_is" "_law_is" (defArgs s__law_is) (defBody s__law_is) (defScope s__law_is) .none kV35 dc35 pm35 an35 cd35 ct35), sl35⟩) (c35 : PySem.W.codeIn K cd35 "_law_is" = true) (k35 : PySem.W.keepIn K (.ref A35) = true)
    (a1 : PySem.W.nsIn K mainGlobals "is_integer" = some (some (.ref A1))) (l1 : K.lookup A1 = some ⟨oc1, od1, .func (PySem.W.fnOf "is_integer" "is_integer" (defArgs s_is_integer) (defBody s_is_integer) (defScope s_is_integer) .none kV1 dc1 pm1 an1 cd1 ct1), sl1⟩) (c1 : PySem.W.codeIn K cd1 "is_integer" = true) (k1 : PySem.W.keepIn K (.ref A1) = true)
    (a2 : PySem.W.nsIn K mainGlobals "is_within" = some (some (.ref A2))) (l2 : K.lookup A2 = some ⟨oc2, od2, .func (PySem.W.fnOf "is_within" "is_within" (defArgs s_is_within) (defBody s_is_within) (defScope s_is_within) .none kV2 dc2 pm2 an2 cd2 ct2), sl2⟩) (c2 : PySem.W.codeIn K cd2 "is_within" = true) (k2 : PySem.W.keepIn K (.ref A2) = true)
    (a22 : PySem.W.nsIn K mainGlobals "shaped" = some (some (.ref A22))) (l22 : K.lookup A22 = some ⟨oc22, od22, .func (PySem.W.fnOf "shaped" "shaped" (defArgs s_shaped) (defBody s_shaped) (defScope s_shaped) .none kV22 dc22 pm22 an22 cd22 ct22), sl22⟩) (c22 : PySem.W.codeIn K cd22 "shaped" = true) (k22 : PySem.W.keepIn K (.ref A22) = true)
    (a23 : PySem.W.nsIn K mainGlobals "even_places" = some (some (.ref A23))) (l23 : K.lookup A23 = some ⟨oc23, od23, .func (PySem.W.fnOf "even_places" "even_places" (defArgs s_even_places) (defBody s_even_places) (defScope s_even_places) .none kV23 dc23 pm23 an23 cd23 ct23), sl23⟩) (c23 : PySem.W.codeIn K cd23 "even_places" = true) (k23 : PySem.W.keepIn K (.ref A23) = true)
    (a3 : PySem.W.nsIn K mainGlobals "is_sized" = some (some (.ref A3))) (l3 : K.lookup A3 = some ⟨oc3, od3, .func (PySem.W.fnOf "is_sized" "is_sized" (defArgs s_is_sized) (defBody s_is_sized) (defScope s_is_sized) .none kV3 dc3 pm3 an3 cd3 ct3), sl3⟩) (c3 : PySem.W.codeIn K cd3 "is_sized" = true) (k3 : PySem.W.keepIn K (.ref A3) = true)
    (a18 : PySem.W.nsIn K mainGlobals "is_row" = some (some (.ref A18))) (l18 : K.lookup A18 = some ⟨oc18, od18, .func (PySem.W.fnOf "is_row" "is_row" (defArgs s_is_row) (defBody s_is_row) (defScope s_is_row) .none kV18 dc18 pm18 an18 cd18 ct18), sl18⟩) (c18 : PySem.W.codeIn K cd18 "is_row" = true) (k18 : PySem.W.keepIn K (.ref A18) = true)
    (a20 : PySem.W.nsIn K mainGlobals "is_chart" = some (some (.ref A20))) (l20 : K.lookup A20 = some ⟨oc20, od20, .func (PySem.W.fnOf "is_chart" "is_chart" (defArgs s_is_chart) (defBody s_is_chart) (defScope s_is_chart) .none kV20 dc20 pm20 an20 cd20 ct20), sl20⟩) (c20 : PySem.W.codeIn K cd20 "is_chart" = true) (k20 : PySem.W.keepIn K (.ref A20) = true)
    (a21 : PySem.W.nsIn K mainGlobals "check_chart" = some (some (.ref A21))) (l21 : K.lookup A21 = some ⟨oc21, od21, .func (PySem.W.fnOf "check_chart" "check_chart" (defArgs s_check_chart) (defBody s_check_chart) (defScope s_check_chart) .none kV21 dc21 pm21 an21 cd21 ct21), sl21⟩) (c21 : PySem.W.codeIn K cd21 "check_chart" = true) (k21 : PySem.W.keepIn K (.ref A21) = true)
    (a24 : PySem.W.nsIn K mainGlobals "undo" = some (some (.ref A24))) (l24 : K.lookup A24 = some ⟨oc24, od24, .func (PySem.W.fnOf "undo" "undo" (defArgs s_undo) (defBody s_undo) (defScope s_undo) .none kV24 dc24 pm24 an24 cd24 ct24), sl24⟩) (c24 : PySem.W.codeIn K cd24 "undo" = true) (k24 : PySem.W.keepIn K (.ref A24) = true)
    (a19 : PySem.W.nsIn K mainGlobals "check_row" = some (some (.ref A19))) (l19 : K.lookup A19 = some ⟨oc19, od19, .func (PySem.W.fnOf "check_row" "check_row" (defArgs s_check_row) (defBody s_check_row) (defScope s_check_row) .none kV19 dc19 pm19 an19 cd19 ct19), sl19⟩) (c19 : PySem.W.codeIn K cd19 "check_row" = true) (k19 : PySem.W.keepIn K (.ref A19) = true)
    (a25 : PySem.W.nsIn K mainGlobals "turn_stitches" = some (some (.ref A25))) (l25 : K.lookup A25 = some ⟨oc25, od25, .func (PySem.W.fnOf "turn_stitches" "turn_stitches" (defArgs s_turn_stitches) (defBody s_turn_stitches) (defScope s_turn_stitches) .none kV25 dc25 pm25 an25 cd25 ct25), sl25⟩) (c25 : PySem.W.codeIn K cd25 "turn_stitches" = true) (k25 : PySem.W.keepIn K (.ref A25) = true)
    (a36 : PySem.W.nsIn K mainGlobals "law" = some (some (.ref A36))) (l36 : K.lookup A36 = some ⟨oc36, od36, .func (PySem.W.fnOf "law" "law" (defArgs s_law) (defBody s_law) (defScope s_law) .none kV36 dc36 pm36 an36 cd36 ct36), sl36⟩) (c36 : PySem.W.codeIn K cd36 "law" = true) (k36 : PySem.W.keepIn K (.ref A36) = true)
    (qq0 : PySem.W.nsIn K mainGlobals "MOST_LOOPS" = some (some (.int 40 tqq0)))
    (qq1 : PySem.W.nsIn K mainGlobals "MOST_SHAPED" = some (some (.int 20 tqq1)))
    (qq2 : PySem.W.nsIn K mainGlobals "FAR" = some (some (.str "far" tqq2)))
    (qq3 : PySem.W.nsIn K mainGlobals "ROWS" = some (some (.str "rows" tqq3)))
    (qq4 : PySem.W.nsIn K mainGlobals "MOST_STITCHES" = some (some (.int 12 tqq4)))
    (qq5 : PySem.W.nsIn K mainGlobals "TAKES" = some (some (.ref Aqq5))) (lqq5 : K.lookup Aqq5 = some ⟨.type "dict", none, .dict #[⟨hqq5_0, (.str "k" tqq5_0), (.int 1 uqq5_0)⟩, ⟨hqq5_1, (.str "p" tqq5_1), (.int 1 uqq5_1)⟩, ⟨hqq5_2, (.str "m" tqq5_2), (.int 1 uqq5_2)⟩, ⟨hqq5_3, (.str "o" tqq5_3), (.int 0 uqq5_3)⟩, ⟨hqq5_4, (.str "d" tqq5_4), (.int 2 uqq5_4)⟩, ⟨hqq5_5, (.str "e" tqq5_5), (.int 2 uqq5_5)⟩, ⟨hqq5_6, (.str "c" tqq5_6), (.int 2 uqq5_6)⟩, ⟨hqq5_7, (.str "t" tqq5_7), (.int 3 uqq5_7)⟩] nqq5, #[]⟩) (yqq5 : PySem.W.KeysLit w.params [⟨hqq5_0, (.str "k" tqq5_0), (.int 1 uqq5_0)⟩, ⟨hqq5_1, (.str "p" tqq5_1), (.int 1 uqq5_1)⟩, ⟨hqq5_2, (.str "m" tqq5_2), (.int 1 uqq5_2)⟩, ⟨hqq5_3, (.str "o" tqq5_3), (.int 0 uqq5_3)⟩, ⟨hqq5_4, (.str "d" tqq5_4), (.int 2 uqq5_4)⟩, ⟨hqq5_5, (.str "e" tqq5_5), (.int 2 uqq5_5)⟩, ⟨hqq5_6, (.str "c" tqq5_6), (.int 2 uqq5_6)⟩, ⟨hqq5_7, (.str "t" tqq5_7), (.int 3 uqq5_7)⟩]) (xqq5 : (Aqq5 == sysModules) = false)
    (qq6 : PySem.W.nsIn K mainGlobals "MOST_ROWS" = some (some (.int 6 tqq6)))
    (qq7 : PySem.W.nsIn K mainGlobals "OTHERS" = some (some (.ref Aqq7))) (lqq7 : K.lookup Aqq7 = some ⟨.type "dict", none, .dict #[⟨hqq7_0, (.str "k" tqq7_0), (.str "p" uqq7_0)⟩, ⟨hqq7_1, (.str "p" tqq7_1), (.str "k" uqq7_1)⟩, ⟨hqq7_2, (.str "d" tqq7_2), (.str "e" uqq7_2)⟩, ⟨hqq7_3, (.str "e" tqq7_3), (.str "d" uqq7_3)⟩] nqq7, #[]⟩) (yqq7 : PySem.W.KeysLit w.params [⟨hqq7_0, (.str "k" tqq7_0), (.str "p" uqq7_0)⟩, ⟨hqq7_1, (.str "p" tqq7_1), (.str "k" uqq7_1)⟩, ⟨hqq7_2, (.str "d" tqq7_2), (.str "e" uqq7_2)⟩, ⟨hqq7_3, (.str "e" tqq7_3), (.str "d" uqq7_3)⟩]) (xqq7 : (Aqq7 == sysModules) = false)
    (z_abs : PySem.W.nsIn K mainGlobals "abs" = some none)
    (z_int : PySem.W.nsIn K mainGlobals "int" = some none)
    (z_len : PySem.W.nsIn K mainGlobals "len" = some none)
    (z_sum : PySem.W.nsIn K mainGlobals "sum" = some none)
    (z_range : PySem.W.nsIn K mainGlobals "range" = some none)
    (z_tuple : PySem.W.nsIn K mainGlobals "tuple" = some none)
    (z_isinstance : PySem.W.nsIn K mainGlobals "isinstance" = some none)
    (z_list : PySem.W.nsIn K mainGlobals "list" = some none)
    (z_all : PySem.W.nsIn K mainGlobals "all" = some none)
    (z_zip : PySem.W.nsIn K mainGlobals "zip" = some none)
    (z_dict : PySem.W.nsIn K mainGlobals "dict" = some none)
    (z_str : PySem.W.nsIn K mainGlobals "str" = some none)
    (z_bool : PySem.W.nsIn K mainGlobals "bool" = some none)
    (z_max : PySem.W.nsIn K mainGlobals "max" = some none)
    (z_any : PySem.W.nsIn K mainGlobals "any" = some none)
    (z_min : PySem.W.nsIn K mainGlobals "min" = some none) :
    ∃ T : Tx K mg w, T.a_law = fa ∧ ∀ (s : Shared) (v : Value), BindsTo s T.f_law ⟨[v], []⟩ [("script", v)] := by
  have e := hfa.symm.trans (PySem.W.mg_of X G a36)
  exact ⟨{ a__law_hand := A27, f__law_hand := _, F__law_hand := fun_mk (st := s__law_hand) l27 c27 k27, b__law_hand := (fun_mk (st := s__law_hand) l27 c27 k27).binds (ps := ["script"]) (fun _ _ _ _ _ _ us hl => match us, hl with | [_], _ => rfl), m__law_hand := PySem.W.mg_of X G a27, a__law_draw := A28, f__law_draw := _, F__law_draw := fun_mk (st := s__law_draw) l28 c28 k28, b__law_draw := (fun_mk (st := s__law_draw) l28 c28 k28).binds (ps := ["hand", "many"]) (fun _ _ _ _ _ _ us hl => match us, hl with | [_, _], _ => rfl), m__law_draw := PySem.W.mg_of X G a28, a__law_numbers := A30, f__law_numbers := _, F__law_numbers := fun_mk (st := s__law_numbers) l30 c30 k30, b__law_numbers := (fun_mk (st := s__law_numbers) l30 c30 k30).binds (ps := ["letter"]) (fun _ _ _ _ _ _ us hl => match us, hl with | [_], _ => rfl), m__law_numbers := PySem.W.mg_of X G a30, a__law_takes := A31, f__law_takes := _, F__law_takes := fun_mk (st := s__law_takes) l31 c31 k31, b__law_takes := (fun_mk (st := s__law_takes) l31 c31 k31).binds (ps := ["row"]) (fun _ _ _ _ _ _ us hl => match us, hl with | [_], _ => rfl), m__law_takes := PySem.W.mg_of X G a31, a__law_some := A29, f__law_some := _, F__law_some := fun_mk (st := s__law_some) l29 c29 k29, b__law_some := (fun_mk (st := s__law_some) l29 c29 k29).binds (ps := ["hand", "things"]) (fun _ _ _ _ _ _ us hl => match us, hl with | [_, _], _ => rfl), m__law_some := PySem.W.mg_of X G a29, a__law_row_for := A33, f__law_row_for := _, F__law_row_for := fun_mk (st := s__law_row_for) l33 c33 k33, b__law_row_for := (fun_mk (st := s__law_row_for) l33 c33 k33).binds (ps := ["hand", "loops"]) (fun _ _ _ _ _ _ us hl => match us, hl with | [_, _], _ => rfl), m__law_row_for := PySem.W.mg_of X G a33, a__law_makes := A32, f__law_makes := _, F__law_makes := fun_mk (st := s__law_makes) l32 c32 k32, b__law_makes := (fun_mk (st := s__law_makes) l32 c32 k32).binds (ps := ["row"]) (fun _ _ _ _ _ _ us hl => match us, hl with | [_], _ => rfl), m__law_makes := PySem.W.mg_of X G a32, a__law_chart := A34, f__law_chart := _, F__law_chart := fun_mk (st := s__law_chart) l34 c34 k34, b__law_chart := (fun_mk (st := s__law_chart) l34 c34 k34).binds (ps := ["hand"]) (fun _ _ _ _ _ _ us hl => match us, hl with | [_], _ => rfl), m__law_chart := PySem.W.mg_of X G a34, a__law_is := A35, f__law_is := _, F__law_is := fun_mk (st := s__law_is) l35 c35 k35, b__law_is := (fun_mk (st := s__law_is) l35 c35 k35).binds (ps := ["told", "due"]) (fun _ _ _ _ _ _ us hl => match us, hl with | [_, _], _ => rfl), m__law_is := PySem.W.mg_of X G a35, a_is_integer := A1, f_is_integer := _, F_is_integer := fun_mk (st := s_is_integer) l1 c1 k1, b_is_integer := (fun_mk (st := s_is_integer) l1 c1 k1).binds (ps := ["thing"]) (fun _ _ _ _ _ _ us hl => match us, hl with | [_], _ => rfl), m_is_integer := PySem.W.mg_of X G a1, a_is_within := A2, f_is_within := _, F_is_within := fun_mk (st := s_is_within) l2 c2 k2, b_is_within := (fun_mk (st := s_is_within) l2 c2 k2).binds (ps := ["thing", "low", "high"]) (fun _ _ _ _ _ _ us hl => match us, hl with | [_, _, _], _ => rfl), m_is_within := PySem.W.mg_of X G a2, a_shaped := A22, f_shaped := _, F_shaped := fun_mk (st := s_shaped) l22 c22 k22, b_shaped := (fun_mk (st := s_shaped) l22 c22 k22).binds (ps := ["a", "b", "rows", "most"]) (fun _ _ _ _ _ _ us hl => match us, hl with | [_, _, _, _], _ => rfl), m_shaped := PySem.W.mg_of X G a22, a_even_places := A23, f_even_places := _, F_even_places := fun_mk (st := s_even_places) l23 c23 k23, b_even_places := (fun_mk (st := s_even_places) l23 c23 k23).binds (ps := ["n", "k"]) (fun _ _ _ _ _ _ us hl => match us, hl with | [_, _], _ => rfl), m_even_places := PySem.W.mg_of X G a23, a_is_sized := A3, f_is_sized := _, F_is_sized := fun_mk (st := s_is_sized) l3 c3 k3, b_is_sized := (fun_mk (st := s_is_sized) l3 c3 k3).binds (ps := ["thing", "low", "high"]) (fun _ _ _ _ _ _ us hl => match us, hl with | [_, _, _], _ => rfl), m_is_sized := PySem.W.mg_of X G a3, a_is_row := A18, f_is_row := _, F_is_row := fun_mk (st := s_is_row) l18 c18 k18, b_is_row := (fun_mk (st := s_is_row) l18 c18 k18).binds (ps := ["thing"]) (fun _ _ _ _ _ _ us hl => match us, hl with | [_], _ => rfl), m_is_row := PySem.W.mg_of X G a18, a_is_chart := A20, f_is_chart := _, F_is_chart := fun_mk (st := s_is_chart) l20 c20 k20, b_is_chart := (fun_mk (st := s_is_chart) l20 c20 k20).binds (ps := ["thing"]) (fun _ _ _ _ _ _ us hl => match us, hl with | [_], _ => rfl), m_is_chart := PySem.W.mg_of X G a20, a_check_chart := A21, f_check_chart := _, F_check_chart := fun_mk (st := s_check_chart) l21 c21 k21, b_check_chart := (fun_mk (st := s_check_chart) l21 c21 k21).binds (ps := ["chart"]) (fun _ _ _ _ _ _ us hl => match us, hl with | [_], _ => rfl), m_check_chart := PySem.W.mg_of X G a21, a_undo := A24, f_undo := _, F_undo := fun_mk (st := s_undo) l24 c24 k24, b_undo := (fun_mk (st := s_undo) l24 c24 k24).binds (ps := ["chart", "many"]) (fun _ _ _ _ _ _ us hl => match us, hl with | [_, _], _ => rfl), m_undo := PySem.W.mg_of X G a24, a_check_row := A19, f_check_row := _, F_check_row := fun_mk (st := s_check_row) l19 c19 k19, b_check_row := (fun_mk (st := s_check_row) l19 c19 k19).binds (ps := ["row"]) (fun _ _ _ _ _ _ us hl => match us, hl with | [_], _ => rfl), m_check_row := PySem.W.mg_of X G a19, a_turn_stitches := A25, f_turn_stitches := _, F_turn_stitches := fun_mk (st := s_turn_stitches) l25 c25 k25, b_turn_stitches := (fun_mk (st := s_turn_stitches) l25 c25 k25).binds (ps := ["row"]) (fun _ _ _ _ _ _ us hl => match us, hl with | [_], _ => rfl), m_turn_stitches := PySem.W.mg_of X G a25, a_law := A36, f_law := _, F_law := fun_mk (st := s_law) l36 c36 k36, b_law := (fun_mk (st := s_law) l36 c36 k36).binds (ps := ["script"]) (fun _ _ _ _ _ _ us hl => match us, hl with | [_], _ => rfl), m_law := PySem.W.mg_of X G a36, u_MOST_LOOPS := _, v_MOST_LOOPS := (.int 40), m_MOST_LOOPS := PySem.W.mg_of X G qq0, r_MOST_LOOPS := ⟨_, rfl⟩, d_MOST_LOOPS := fun _ _ => rfl, u_MOST_SHAPED := _, v_MOST_SHAPED := (.int 20), m_MOST_SHAPED := PySem.W.mg_of X G qq1, r_MOST_SHAPED := ⟨_, rfl⟩, d_MOST_SHAPED := fun _ _ => rfl, u_FAR := _, v_FAR := (.str "far"), m_FAR := PySem.W.mg_of X G qq2, r_FAR := ⟨_, rfl⟩, d_FAR := fun _ _ => rfl, u_ROWS := _, v_ROWS := (.str "rows"), m_ROWS := PySem.W.mg_of X G qq3, r_ROWS := ⟨_, rfl⟩, d_ROWS := fun _ _ => rfl, u_MOST_STITCHES := _, v_MOST_STITCHES := (.int 12), m_MOST_STITCHES := PySem.W.mg_of X G qq4, r_MOST_STITCHES := ⟨_, rfl⟩, d_MOST_STITCHES := fun _ _ => rfl, u_TAKES := _, v_TAKES := .ref Aqq5, m_TAKES := PySem.W.mg_of X G qq5, r_TAKES := rfl, d_TAKES := fun _ _ => ⟨Aqq5, [(.int 1), (.int 1), (.int 1), (.int 0), (.int 2), (.int 2), (.int 2), (.int 3)], rfl, kd_mk lqq5 yqq5 xqq5 (.cons ⟨_, _, rfl, rfl⟩ (.cons ⟨_, _, rfl, rfl⟩ (.cons ⟨_, _, rfl, rfl⟩ (.cons ⟨_, _, rfl, rfl⟩ (.cons ⟨_, _, rfl, rfl⟩ (.cons ⟨_, _, rfl, rfl⟩ (.cons ⟨_, _, rfl, rfl⟩ (.cons ⟨_, _, rfl, rfl⟩ (.nil))))))))) (.cons ⟨_, rfl⟩ (.cons ⟨_, rfl⟩ (.cons ⟨_, rfl⟩ (.cons ⟨_, rfl⟩ (.cons ⟨_, rfl⟩ (.cons ⟨_, rfl⟩ (.cons ⟨_, rfl⟩ (.cons ⟨_, rfl⟩ (.nil))))))))), ⟨_, _, rfl, rfl, ⟨_, _, rfl, rfl, ⟨_, _, rfl, rfl, ⟨_, _, rfl, rfl, ⟨_, _, rfl, rfl, ⟨_, _, rfl, rfl, ⟨_, _, rfl, rfl, ⟨_, _, rfl, rfl, rfl⟩⟩⟩⟩⟩⟩⟩⟩⟩, u_MOST_ROWS := _, v_MOST_ROWS := (.int 6), m_MOST_ROWS := PySem.W.mg_of X G qq6, r_MOST_ROWS := ⟨_, rfl⟩, d_MOST_ROWS := fun _ _ => rfl, u_OTHERS := _, v_OTHERS := .ref Aqq7, m_OTHERS := PySem.W.mg_of X G qq7, r_OTHERS := rfl, d_OTHERS := fun _ _ => ⟨Aqq7, [(.str "p"), (.str "k"), (.str "e"), (.str "d")], rfl, kd_mk lqq7 yqq7 xqq7 (.cons ⟨_, _, rfl, rfl⟩ (.cons ⟨_, _, rfl, rfl⟩ (.cons ⟨_, _, rfl, rfl⟩ (.cons ⟨_, _, rfl, rfl⟩ (.nil))))) (.cons ⟨_, rfl⟩ (.cons ⟨_, rfl⟩ (.cons ⟨_, rfl⟩ (.cons ⟨_, rfl⟩ (.nil))))), ⟨_, _, rfl, rfl, ⟨_, _, rfl, rfl, ⟨_, _, rfl, rfl, ⟨_, _, rfl, rfl, rfl⟩⟩⟩⟩⟩, z_abs := PySem.W.mg_none_of X G z_abs, z_int := PySem.W.mg_none_of X G z_int, z_len := PySem.W.mg_none_of X G z_len, z_sum := PySem.W.mg_none_of X G z_sum, z_range := PySem.W.mg_none_of X G z_range, z_tuple := PySem.W.mg_none_of X G z_tuple, z_isinstance := PySem.W.mg_none_of X G z_isinstance, z_list := PySem.W.mg_none_of X G z_list, z_all := PySem.W.mg_none_of X G z_all, z_zip := PySem.W.mg_none_of X G z_zip, z_dict := PySem.W.mg_none_of X G z_dict, z_str := PySem.W.mg_none_of X G z_str, z_bool := PySem.W.mg_none_of X G z_bool, z_max := PySem.W.mg_none_of X G z_max, z_any := PySem.W.mg_none_of X G z_any, z_min := PySem.W.mg_none_of X G z_min }, (Value.ref.inj (Option.some.inj e)).symm, fun s v => .of_eq rfl⟩
end
end Lw

set_option Elab.async false
set_option linter.all false
set_option maxRecDepth 100000
set_option autoImplicit false
set_option maxHeartbeats 4000000
namespace Lw
open PySem PySem.Spec L2 Dn
open PyProof.Rows hiding St
/-! ### rows drawn -/
theorem at_get {α : Type} {l : List α} {i : Int} (h0 : 0 ≤ i) (h1 : i < l.length) : ∃ x, x ∈ l ∧ atI l i = some x := by
  have hl : i.toNat < l.length := by omega
  refine ⟨l[i.toNat], List.getElem_mem hl, ?_⟩
  unfold atI ixN
  rw [if_pos h0, if_pos h1]
  exact List.getElem?_eq_getElem hl
theorem some_ok {h : D} {xs : List D} (ho : HandOk h) (hn : xs ≠ []) (hl : xs.length < 1073741824) : ∃ x h', den__law_some [h, .lst xs] = .ok (x, h') ∧ x ∈ xs ∧ HandOk h' := by
  have hp : 0 < xs.length := List.length_pos_iff.mpr hn
  obtain ⟨v, h', e, v0, v1, ho'⟩ := draw_ok (many := (xs.length : Int)) ho (by omega) (by omega)
  obtain ⟨x, hx, ex⟩ := at_get (l := xs) v0 v1
  refine ⟨x, h', denIO_rt (δ := [some h', some (.lst xs)]) rfl ?_ rfl, hx, ho'⟩
  show body__law_some [some h, some (.lst xs)] = _
  unfold body__law_some
  simp [e, ex]
/-- the letters' two numbers -/
def numA (x : Str) : Int := if x = "o" then 0 else if x = "d" ∨ x = "e" ∨ x = "c" then 2 else if x = "t" then 3 else 1
theorem numbers_ok (x : Str) : ∃ b : Int, den__law_numbers [.str x] = .ok (.tup [.int (numA x), .int b]) := by
  by_cases h1 : x = "m"
  · subst h1; exact ⟨2, by kernel_rfl⟩
  by_cases h2 : x = "o"
  · subst h2; exact ⟨1, by kernel_rfl⟩
  by_cases h3 : x = "d"
  · subst h3; exact ⟨1, by kernel_rfl⟩
  by_cases h4 : x = "e"
  · subst h4; exact ⟨1, by kernel_rfl⟩
  by_cases h5 : x = "c"
  · subst h5; exact ⟨2, by kernel_rfl⟩
  by_cases h6 : x = "t"
  · subst h6; exact ⟨1, by kernel_rfl⟩
  refine ⟨1, denP_rt (δ := [some (.str x)]) rfl ?_⟩
  show body__law_numbers [some (.str x)] = _
  have e : numA x = 1 := by unfold numA; simp [h2, h3, h4, h5, h6]
  have l2 : 2 ≤ LN := by decide
  unfold body__law_numbers
  have ed : dispD ([.str "m", .str "o", .str "d", .str "e", .str "c", .str "t"], [.tup [.int 1, .int 2], .tup [.int 0, .int 1], .tup [.int 2, .int 1], .tup [.int 2, .int 1], .tup [.int 2, .int 2], .tup [.int 3, .int 1]]) = some (.dct 0 [.str "m", .str "o", .str "d", .str "e", .str "c", .str "t"] [.tup [.int 1, .int 2], .tup [.int 0, .int 1], .tup [.int 2, .int 1], .tup [.int 2, .int 1], .tup [.int 2, .int 2], .tup [.int 3, .int 1]]) := by
    unfold dispD
    rw [show keysOf ([.str "m", .str "o", .str "d", .str "e", .str "c", .str "t"], [D.tup [.int 1, .int 2], .tup [.int 0, .int 1], .tup [.int 2, .int 1], .tup [.int 2, .int 1], .tup [.int 2, .int 2], .tup [.int 3, .int 1]]).1 = some [.inr "m", .inr "o", .inr "d", .inr "e", .inr "c", .inr "t"] from rfl]
    rw [Option.bind_some, if_pos (by decide +kernel)]
  have eg : ∀ d, dgetD (.dct 0 [.str "m", .str "o", .str "d", .str "e", .str "c", .str "t"] [.tup [.int 1, .int 2], .tup [.int 0, .int 1], .tup [.int 2, .int 1], .tup [.int 2, .int 1], .tup [.int 2, .int 2], .tup [.int 3, .int 1]]) [.str x, d] = some d := fun d => by
    unfold dgetD lookE
    simp [keyOf, lookD, Ne.symm h1, Ne.symm h2, Ne.symm h3, Ne.symm h4, Ne.symm h5, Ne.symm h6]
  simp [l2, ed, eg, recvOk, e]

noncomputable def numB (x : Str) : Int := (numbers_ok x).choose
theorem numbers_eq (x : Str) : den__law_numbers [.str x] = .ok (.tup [.int (numA x), .int (numB x)]) := (numbers_ok x).choose_spec
/-- a text's signs -/
def sgn (r : Str) : List Str := r.cps.toList.map fun c => ⟨#[c]⟩
theorem walk_sgn (r : Str) : walkD (.str r) = some ((sgn r).map D.str) := by
  unfold walkD sgn; rw [List.map_map]; rfl
theorem sgn_len (r : Str) : (sgn r).length = r.length := by
  unfold sgn; rw [List.length_map, Array.length_toList]; rfl
theorem sgn_app (r x : Str) : sgn (r ++ x) = sgn r ++ sgn x := by
  show (r.cps ++ x.cps).toList.map _ = _
  rw [Array.toList_append, List.map_append]; rfl
theorem app_len (r x : Str) : (r ++ x).length = r.length + x.length := by
  show (r.cps ++ x.cps).size = _
  rw [Array.size_append]; rfl
def ltrs : List Str := ["k", "k", "k", "p", "m", "o", "d", "e", "c", "t"]
theorem ltrs_ok : ∀ x ∈ ltrs, StrOk x = true ∧ x.length = 1 ∧ sgn x = [x] := by decide +kernel
theorem walk_k : walkD (.str "kkkpmodect") = some (ltrs.map D.str) := by kernel_rfl
def RowOk (r : Str) : Prop := ∀ x ∈ sgn r, x ∈ ltrs
theorem at2 (a b : D) : atI [a, b] 0 = some a ∧ atI [a, b] 1 = some b := ⟨rfl, rfl⟩
theorem takes_ok {r : Str} (hl : r.length ≤ LN) : den__law_takes [.str r] = .ok (.int ((sgn r).map numA).sum) := by
  refine denP_rt (δ := [some (.str r), none]) rfl ?_
  show body__law_takes [some (.str r), none] = _
  have el : lcL (lcT [1] (setD 1) bYes (p2 ixD (pCall den__law_numbers (aCons (pVar 1) aNil)) (pC (.int 0))) [some (.str r), none]) ((sgn r).map D.str) = .ok (((sgn r).map numA).map D.int) := by
    rw [List.map_map]
    exact lcL_map fun x _ => by simp [lcT, numbers_eq, at2]
  have hm : (((sgn r).map numA).map D.int).length ≤ LN := by simpa [sgn_len] using hl
  have es : sumD [.lst (((sgn r).map numA).map D.int)] = some (.int ((sgn r).map numA).sum) := by
    show (intsOf (((sgn r).map numA).map D.int)).map _ = _
    rw [intsOf_map]; rfl
  unfold body__law_takes
  generalize ((sgn r).map numA).map D.int = zs at el hm es
  simp [walk_sgn, el, hm, es]
theorem makes_ok {r : Str} (hl : r.length ≤ LN) : ∃ i : Int, den__law_makes [.str r] = .ok (.int i) := by
  refine ⟨((sgn r).map numB).sum, denP_rt (δ := [some (.str r), none]) rfl ?_⟩
  show body__law_makes [some (.str r), none] = _
  have el : lcL (lcT [1] (setD 1) bYes (p2 ixD (pCall den__law_numbers (aCons (pVar 1) aNil)) (pC (.int 1))) [some (.str r), none]) ((sgn r).map D.str) = .ok (((sgn r).map numB).map D.int) := by
    rw [List.map_map]
    exact lcL_map fun x _ => by simp [lcT, numbers_eq, at2]
  have hm : (((sgn r).map numB).map D.int).length ≤ LN := by simpa [sgn_len] using hl
  have es : sumD [.lst (((sgn r).map numB).map D.int)] = some (.int ((sgn r).map numB).sum) := by
    show (intsOf (((sgn r).map numB).map D.int)).map _ = _
    rw [intsOf_map]; rfl
  unfold body__law_makes
  generalize ((sgn r).map numB).map D.int = zs at el hm es
  simp [walk_sgn, el, hm, es]
theorem row_turn {h : D} {loops left : Int} {r : Str} {y : Option D} (ho : HandOk h) (hr : RowOk r) (hl : r.length < 12) (h0 : 0 < left) :
    ∃ h' r' left' y', b__law_row_for_2 [some h, some (.int loops), some (.str r), some (.int left), y, none, none] = .nx [some h', some (.int loops), some (.str r'), some (.int left'), y', none, none] ∧ HandOk h' ∧ RowOk r' ∧ r'.length = r.length + 1 := by
  -- the letters that may come
  let S : List Str := ltrs.filter fun x => decide (numA x ≤ left)
  have kS : ("k" : Str) ∈ S := List.mem_filter.mpr ⟨by decide +kernel, by
    rw [show numA "k" = 1 by kernel_rfl]; simp; omega⟩
  have sS : ∀ x ∈ S, x ∈ ltrs := fun x hx => (List.mem_filter.mp hx).1
  have lS : S.length ≤ 10 := Nat.le_trans (List.length_filter_le _ _) (by decide)
  have e1 : lcL (lcT [5] (setD 5) (pB leD (p2 ixD (pCall den__law_numbers (aCons (pVar 5) aNil)) (pC (.int 0))) (pVar 3)) (pVar 5) [none, some (.int loops), some (.str r), some (.int left), y, none, none]) (ltrs.map D.str) = .ok (S.map D.str) :=
    lcL_filter fun x _ => by
      by_cases q : numA x ≤ left
      · simp [lcT, numbers_eq, at2, q]
      · simp [lcT, numbers_eq, at2, q]
  let S2 : List Str := S.filter fun x => !decide (x = "o")
  have kS2 : ("k" : Str) ∈ S2 := List.mem_filter.mpr ⟨kS, by decide +kernel⟩
  have sS2 : ∀ x ∈ S2, x ∈ ltrs := fun x hx => sS x (List.mem_filter.mp hx).1
  have lS2 : S2.length ≤ 10 := Nat.le_trans (List.length_filter_le _ _) lS
  have e2 : lcL (lcT [6] (setD 6) (pB neD (pVar 6) (pC (.str "o"))) (pVar 6) [none, some (.int loops), some (.str r), some (.int left), some (.lst (S.map D.str)), none, none]) (S.map D.str) = .ok (S2.map D.str) :=
    lcL_filter fun x hx => by
      have en := neD_ss (ltrs_ok x (sS x hx)).1 (show StrOk "o" = true by decide +kernel)
      by_cases q : x = "o"
      · subst q; simp [lcT, en]
      · simp [lcT, en, q]
  clear_value S2
  clear_value S
  have n1 : (S.map D.str) ≠ [] := fun z => by rw [List.map_eq_nil_iff] at z; rw [z] at kS; exact absurd kS List.not_mem_nil
  have n2 : (S2.map D.str) ≠ [] := fun z => by rw [List.map_eq_nil_iff] at z; rw [z] at kS2; exact absurd kS2 List.not_mem_nil
  have l1 : (S.map D.str).length ≤ LN := by rw [List.length_map]; exact Nat.le_trans lS (by decide)
  have l2 : (S2.map D.str).length ≤ LN := by rw [List.length_map]; exact Nat.le_trans lS2 (by decide)
  have hrl : r.length ≤ LN := by have : (12 : Nat) ≤ LN := by decide
                                 omega
  -- a letter is drawn
  have fin : ∀ (x : Str) (h' : D), x ∈ ltrs → HandOk h' → r.length + x.length ≤ LN ∧ RowOk (r ++ x) ∧ (r ++ x).length = r.length + 1 ∧ (r ++ x).length ≤ LN := fun x h' hx _ => by
    obtain ⟨z1, z2, z3⟩ := ltrs_ok x hx
    have : (12 : Nat) ≤ LN := by decide
    have ea := app_len r x
    refine ⟨by omega, fun w hw => ?_, by omega, by omega⟩
    rw [sgn_app, z3, List.mem_append, List.mem_singleton] at hw
    rcases hw with hw | rfl
    · exact hr w hw
    · exact hx
  by_cases q : r.length < 3
  · obtain ⟨d, h', e3, hd, ho'⟩ := some_ok (xs := S.map D.str) ho n1 (by rw [List.length_map]; omega)
    obtain ⟨x, hx, rfl⟩ := List.mem_map.mp hd
    obtain ⟨f1, f2, f3, f4⟩ := fin x h' (sS x hx) ho'
    refine ⟨h', r ++ x, loops - ((sgn (r ++ x)).map numA).sum, some (.lst (S.map D.str)), ?_, ho', f2, f3⟩
    have et := takes_ok f4
    have qi : (r.length : Int) < 3 := by omega
    unfold b__law_row_for_2
    generalize S.map D.str = zs at e1 e2 e3 n1 l1
    simp [walk_k, e1, l1, hrl, qi, e3, f1, et]
  · obtain ⟨d, h', e3, hd, ho'⟩ := some_ok (xs := S2.map D.str) ho n2 (by rw [List.length_map]; omega)
    obtain ⟨x, hx, rfl⟩ := List.mem_map.mp hd
    obtain ⟨f1, f2, f3, f4⟩ := fin x h' (sS2 x hx) ho'
    refine ⟨h', r ++ x, loops - ((sgn (r ++ x)).map numA).sum, some (.lst (S.map D.str)), ?_, ho', f2, f3⟩
    have et := takes_ok f4
    have qi : ¬ (r.length : Int) < 3 := by omega
    unfold b__law_row_for_2
    generalize S2.map D.str = ws at e2 e3 n2 l2
    generalize S.map D.str = zs at e1 e2 n1 l1
    simp [walk_k, e1, l1, hrl, qi, e2, l2, e3, f1, et]

theorem row_loop : ∀ (n : Nat) {h : D} {loops left : Int} {r : Str} {y : Option D}, HandOk h → RowOk r → r.length ≤ 12 → 12 - r.length ≤ n →
    ∃ h' r' left' y', whileL (bZ (bAnd (pB gtD (pVar 3) (pC (.int 0))) (pB ltD (pCB lenD (aCons (pVar 2) aNil)) (pC (.int 12))))) b__law_row_for_2 (n + 1) [some h, some (.int loops), some (.str r), some (.int left), y, none, none]
      = .nx [some h', some (.int loops), some (.str r'), some (.int left'), y', none, none] ∧ HandOk h' ∧ RowOk r' ∧ r'.length ≤ 12 := by
  intro n
  induction n with
  | zero =>
    intro h loops left r y ho hr hl hn
    refine ⟨h, r, left, y, ?_, ho, hr, hl⟩
    have hrl : r.length ≤ LN := Nat.le_trans hl (by decide)
    have q2 : ¬ (r.length : Int) < 12 := by omega
    unfold whileL
    by_cases q : 0 < left
    · simp [q, hrl, q2]
    · simp [q]
  | succ n ih =>
    intro h loops left r y ho hr hl hn
    have hrl : r.length ≤ LN := Nat.le_trans hl (by decide)
    by_cases q : 0 < left
    · by_cases q2 : r.length < 12
      · obtain ⟨h1, r1, left1, y1, e1, ho1, hr1, hl1⟩ := row_turn (loops := loops) (y := y) ho hr q2 q
        obtain ⟨h', r', left', y', e2, ho', hr', hl'⟩ := ih (loops := loops) (left := left1) (y := y1) ho1 hr1 (by omega) (by omega)
        refine ⟨h', r', left', y', ?_, ho', hr', hl'⟩
        have qi : (r.length : Int) < 12 := by omega
        unfold whileL
        simp [q, hrl, qi, e1, e2]
      · have qi : ¬ (r.length : Int) < 12 := by omega
        refine ⟨h, r, left, y, ?_, ho, hr, hl⟩
        unfold whileL
        simp [q, hrl, qi]
    · refine ⟨h, r, left, y, ?_, ho, hr, hl⟩
      unfold whileL
      simp [q]
theorem row_for_ok {h : D} {loops : Int} (ho : HandOk h) : ∃ d h', den__law_row_for [h, .int loops] = .ok (d, h') ∧ HandOk h' ∧ (d = .non ∨ ∃ r : Str, d = .str r ∧ RowOk r ∧ 0 < r.length ∧ r.length ≤ 12) := by
  have r0 : RowOk "" := fun x hx => by
    rw [show sgn "" = [] by kernel_rfl] at hx; cases hx
  obtain ⟨h', r', left', y', e, ho', hr', hl'⟩ := row_loop 12 (h := h) (loops := loops) (left := loops) (r := "") (y := none) ho r0 (by decide +kernel) (by decide +kernel)
  have ew : q__law_row_for_2 [some h, some (.int loops), some (.str ""), some (.int loops), none, none, none] = .nx [some h', some (.int loops), some (.str r'), some (.int left'), y', none, none] := sWhile_eq e (fun z => nomatch z)
  have hrl : r'.length ≤ LN := Nat.le_trans hl' (by decide)
  have l2 : 2 ≤ LN := by decide
  by_cases q : left' = 0 ∧ 0 < r'.length
  · have qi : 0 < (r'.length : Int) := by omega
    refine ⟨.str r', h', denIO_rt (δ := [some h', some (.int loops), some (.str r'), some (.int left'), y', none, none]) rfl ?_ rfl, ho', .inr ⟨r', rfl, hr', q.2, hl'⟩⟩
    show body__law_row_for [some h, some (.int loops), none, none, none, none, none] = _
    unfold body__law_row_for
    simp [l2, ew, q.1, hrl, q.2]
  · refine ⟨.non, h', denIO_rt (δ := [some h', some (.int loops), some (.str r'), some (.int left'), y', none, none]) rfl ?_ rfl, ho', .inl rfl⟩
    show body__law_row_for [some h, some (.int loops), none, none, none, none, none] = _
    unfold body__law_row_for
    by_cases q1 : left' = 0
    · have qi : ¬ 0 < r'.length := fun z => q ⟨q1, z⟩
      simp [l2, ew, q1, hrl, qi]
    · simp [l2, ew, q1]

def RowGood (r : Str) : Prop := RowOk r ∧ 0 < r.length ∧ r.length ≤ 12
theorem chart_turn {h : D} {rs : List Str} {loops : Int} {y3 y4 : Option D} (ho : HandOk h) (hr : ∀ r ∈ rs, RowGood r) (hl : rs.length < 5) :
    ∃ (h' : D) (rs' : List Str) (loops' : Int) (y4' : Option D), b__law_chart_2 [some h, some (.lst (rs.map D.str)), some (.int loops), y3, y4] = .nx [some h', some (.lst (rs'.map D.str)), some (.int loops'), y3, y4'] ∧ HandOk h' ∧ (∀ r ∈ rs', RowGood r) ∧ rs'.length ≤ rs.length + 1 := by
  obtain ⟨d, h', e, ho', hd⟩ := row_for_ok (loops := loops) ho
  have hl2 : rs.length < LN := Nat.lt_of_lt_of_le hl (by decide)
  rcases hd with rfl | ⟨r, rfl, r1, r2, r3⟩
  · refine ⟨h', rs, loops, some .non, ?_, ho', hr, by omega⟩
    unfold b__law_chart_2 q__law_chart_4
    simp [e, isnotD]
  · obtain ⟨m, em⟩ := makes_ok (r := r) (Nat.le_trans r3 (by decide))
    refine ⟨h', rs ++ [r], m, some (.str r), ?_, ho', fun x hx => ?_, by simp⟩
    · unfold b__law_chart_2 q__law_chart_4
      simp [e, isnotD, appD, hl2, em]
    · rcases List.mem_append.mp hx with hx | hx
      · exact hr x hx
      · rw [List.mem_singleton.mp hx]; exact ⟨r1, r2, r3⟩
theorem chart_loop : ∀ (ds : List D) {h : D} {rs : List Str} {loops : Int} {y3 y4 : Option D}, HandOk h → (∀ r ∈ rs, RowGood r) → rs.length + ds.length ≤ 5 →
    ∃ (h' : D) (rs' : List Str) (loops' : Int) (y3' y4' : Option D), forL (setD 3) b__law_chart_2 ds [some h, some (.lst (rs.map D.str)), some (.int loops), y3, y4] = .nx [some h', some (.lst (rs'.map D.str)), some (.int loops'), y3', y4'] ∧ HandOk h' ∧ (∀ r ∈ rs', RowGood r) ∧ rs'.length ≤ 5
  | [], h, rs, loops, y3, y4, ho, hr, hl => ⟨h, rs, loops, y3, y4, rfl, ho, hr, by simpa using hl⟩
  | d :: ds, h, rs, loops, y3, y4, ho, hr, hl => by
    rw [List.length_cons] at hl
    obtain ⟨h1, rs1, loops1, y41, e1, ho1, hr1, hl1⟩ := chart_turn (loops := loops) (y3 := some d) (y4 := y4) ho hr (by omega)
    obtain ⟨h', rs', loops', y3', y4', e2, ho', hr', hl'⟩ := chart_loop ds (loops := loops1) (y3 := some d) (y4 := y41) ho1 hr1 (by omega)
    refine ⟨h', rs', loops', y3', y4', ?_, ho', hr', hl'⟩
    unfold forL
    simp [e1, e2]
theorem range1_eq {j : Int} (h : -(2 ^ 62) ≤ j ∧ j < 2 ^ 62) : range1D [.int j] = some (rngD 0 j.toNat) := if_pos (decide_eq_true h)
theorem range2_eq {i j : Int} (h : -(2 ^ 62) ≤ i ∧ i < 2 ^ 62) (h' : -(2 ^ 62) ≤ j ∧ j < 2 ^ 62) : range2D [.int i, .int j] = some (rngD i (j - i).toNat) := if_pos ⟨decide_eq_true h, decide_eq_true h'⟩
theorem rngD_len (lo : Int) (n : Nat) : (rngD lo n).length = n := by unfold rngD; rw [List.length_map, List.length_range]
theorem cleans_strs : ∀ l : List Str, cleans (l.map D.str) = true
  | [] => rfl
  | i :: l => by show (clean (.str i) && cleans (l.map D.str)) = true; rw [cleans_strs l]; rfl
theorem kp_ok : RowGood "kp" := ⟨by
  have : ∀ x ∈ sgn "kp", x ∈ ltrs := by decide +kernel
  exact this, by decide +kernel, by decide +kernel⟩
theorem chart_ok {h : D} (ho : HandOk h) : ∃ (rs : List Str) (h' : D), den__law_chart [h] = .ok (.tup (rs.map D.str), h') ∧ HandOk h' ∧ rs ≠ [] ∧ rs.length ≤ 5 ∧ ∀ r ∈ rs, RowGood r := by
  obtain ⟨v1, h1, e1, a1, b1, ho1⟩ := draw_ok (many := 9) ho (by omega) (by omega)
  obtain ⟨v2, h2, e2, a2, b2, ho2⟩ := draw_ok (many := 5) ho1 (by omega) (by omega)
  obtain ⟨h', rs', loops', y3', y4', e3, ho', hr', hl'⟩ := chart_loop (rngD 0 (1 + v2).toNat) (rs := []) (loops := 1 + v1) (y3 := none) (y4 := none) ho2 (fun r hr => nomatch hr) (by rw [rngD_len, List.length_nil]; omega)
  have er : range1D [.int (1 + v2)] = some (rngD 0 (1 + v2).toNat) := range1_eq (by omega)
  have l0 : 0 ≤ LN := by decide
  have l1 : 1 ≤ LN := by decide
  simp only [List.map_nil] at e3
  by_cases q : rs' = []
  · subst q
    refine ⟨["kp"], h', denIO_rt (δ := [some h', some (.lst []), some (.int loops'), y3', y4']) rfl ?_ rfl, ho', by simp, by simp, by simpa using kp_ok⟩
    show body__law_chart [some h, none, none, none, none] = _
    unfold body__law_chart q__law_chart_2
    simp [l0, e1, e2, er, e3, l1]
  · refine ⟨rs', h', denIO_rt (δ := [some h', some (.lst (rs'.map D.str)), some (.int loops'), y3', y4']) rfl ?_ rfl, ho', q, hl', hr'⟩
    show body__law_chart [some h, none, none, none, none] = _
    have qi : 0 < rs'.length := List.length_pos_iff.mpr q
    unfold body__law_chart q__law_chart_2
    simp [l0, e1, e2, er, e3, l1, qi, cleans_strs]
end Lw

set_option Elab.async false
set_option linter.all false
set_option maxRecDepth 100000
set_option autoImplicit false
set_option maxHeartbeats 4000000
namespace Lw
open PySem PySem.Spec L2 Dn
open PyProof.Rows hiding St
/-! ### what the program answers -/
theorem int_ok (x : Int) : den_is_integer [.int x] = .ok (.bl true) := by
  refine denP_rt (δ := [some (.int x)]) rfl ?_
  show body_is_integer [some (.int x)] = _
  unfold body_is_integer
  simp [isi1D, tyName, isiB]
theorem within_ok {x lo hi : Int} (h1 : lo ≤ x) (h2 : x ≤ hi) : den_is_within [.int x, .int lo, .int hi] = .ok (.bl true) := by
  refine denP_rt (δ := [some (.int x), some (.int lo), some (.int hi)]) rfl ?_
  show body_is_within [some (.int x), some (.int lo), some (.int hi)] = _
  unfold body_is_within
  simp [int_ok, h1, h2]
theorem cut1 {α : Type} (l : List α) : cutL l (some 1) none = l.drop 1 := by
  unfold cutL
  rw [show HT.sIx l.length 0 (some 1) = min 1 l.length from HT.sIx_nat l.length 0 1, HT.sIx_none]
  cases l with
  | nil => rfl
  | cons x r =>
    rw [show min 1 (x :: r).length = 1 by rw [List.length_cons]; omega]
    show (List.take ((x :: r).length - 1) r) = r
    rw [List.length_cons, Nat.add_sub_cancel]
    exact List.take_length
theorem cut_mem {α : Type} {l : List α} {lo hi : Option Int} {x : α} (h : x ∈ cutL l lo hi) : x ∈ l := List.mem_of_mem_drop (List.mem_of_mem_take h)
/-- even places -/
def places (n k : Int) : List Int := (List.range k.toNat).map fun (i : Nat) => ((2 * (0 + (i : Int)) + 1) * n).fdiv (2 * k)
def gPl (sn sk si : Nat) : DS → Res D := p2 fdivD (p2 mulD (p2 addD (p2 mulD (pC (.int 2)) (pVar si)) (pC (.int 1))) (pVar sn)) (p2 mulD (pC (.int 2)) (pVar sk))
theorem places_lc {n k : Int} (hn : 1 ≤ n ∧ n ≤ 40) (hk : 0 ≤ k ∧ k ≤ n) {sn sk si : Nat} {δ : DS} (h1 : δ[sn]? = some (some (.int n))) (h2 : δ[sk]? = some (some (.int k))) (h3 : si ≠ sn) (h4 : si ≠ sk) (h5 : si < δ.length) :
    lcL (lcT [si] (setD si) bYes (gPl sn sk si) δ) (rngD 0 k.toNat) = .ok ((places n k).map .int) := by
  unfold rngD places
  rw [List.map_map]
  refine lcL_map fun i hi => ?_
  have hi := List.mem_range.mp hi
  have e1 : ∀ z : Int, mulD (.int 2) (.int z) = some (.int (2 * z)) := fun z => mulD_ii _ _ (.inl (by omega))
  have e2 : ∀ z : Int, mulD (.int z) (.int n) = some (.int (z * n)) := fun z => mulD_ii _ _ (.inr (by omega))
  have e3 : ∀ z : Int, fdivD (.int z) (.int (2 * k)) = some (.int (z.fdiv (2 * k))) := fun z => fdivD_ii _ _ (by omega)
  have g1 : ∀ x : D, ((δ.set si none).set si (some x))[si]? = some (some x) := fun x => List.getElem?_set_self (by rw [List.length_set]; exact h5)
  have g2 : ∀ x : D, ((δ.set si none).set si (some x))[sn]? = some (some (.int n)) := fun x => by rw [List.getElem?_set_ne h3, List.getElem?_set_ne h3, h1]
  have g3 : ∀ x : D, ((δ.set si none).set si (some x))[sk]? = some (some (.int k)) := fun x => by rw [List.getElem?_set_ne h4, List.getElem?_set_ne h4, h2]
  unfold lcT gPl
  simp (config := { implicitDefEqProofs := false }) only [setD_e, wipeD_cons, wipeD_nil, putAll_cons, putAll_nil, bYes_e, p2_e, pC_e, pVar_e, g1, g2, g3, bind_ok, e1, e2, e3, resO_some, addD_ii, Function.comp_def]
theorem places_len (n k : Int) : (places n k).length = k.toNat := by unfold places; rw [List.length_map, List.length_range]
theorem even_ok {n k : Int} (hn : 1 ≤ n ∧ n ≤ 40) (hk : 0 ≤ k ∧ k ≤ n) : den_even_places [.int n, .int k] = .ok (.tup ((places n k).map .int)) := by
  refine denP_rt (δ := [some (.int n), some (.int k), none]) rfl ?_
  show body_even_places [some (.int n), some (.int k), none] = _
  have w1 := within_ok (x := n) (lo := 1) (hi := 40) hn.1 hn.2
  have w2 := within_ok (x := k) (lo := 0) (hi := n) hk.1 hk.2
  have el := places_lc hn hk (sn := 0) (sk := 1) (si := 2) (δ := [some (.int n), some (.int k), none]) rfl rfl (by decide) (by decide) (by simp)
  have er : range1D [.int k] = some (rngD 0 k.toNat) := range1_eq (by omega)
  have hl : (places n k).length ≤ LN := by
    rw [places_len]
    have : (40 : Nat) ≤ LN := by decide
    omega
  unfold gPl at el
  unfold body_even_places q_even_places_1 D_MOST_LOOPS
  simp (config := { implicitDefEqProofs := false }) only [sSeq_e, sIf_e, bZ_e, bOr_e, bNot_e, pT_e, pCall_e, aCons_e, aNil_e, pVar_e, pC_e, bind_ok, List.getElem?_cons_zero, List.getElem?_cons_succ, w1, w2, resO_some, truD_b]
  simp (config := { implicitDefEqProofs := false }) [er, el, hl]

/-! shaped -/
def absI (z : Int) : Int := if z < 0 then -z else z
def cnt (a b m rows : Int) : List Int := (List.range rows.toNat).map fun (i : Nat) => a + ((b - a) * (1 + (i : Int))).fdiv m
def stp (a : Int) (L : List Int) : List Int := (List.zip (a :: L) L).map fun p => absI (p.1 - p.2)
theorem zip_ints (xs ys : List Int) : zipL (xs.map D.int) (ys.map D.int) = (List.zip xs ys).map fun p => D.tup [.int p.1, .int p.2] := by
  unfold zipL
  induction xs generalizing ys with
  | nil => rfl
  | cons x xs ih => cases ys with
    | nil => rfl
    | cons y ys => rw [List.map_cons, List.map_cons, List.zipWith_cons_cons, ih, List.zip_cons_cons, List.map_cons]
theorem cnt_lc {a b m rows : Int} (ha : 1 ≤ a ∧ a ≤ 40) (hb : 1 ≤ b ∧ b ≤ 40) (hm : 1 ≤ m ∧ m ≤ 20) {sa sb si : Nat} {fm : DS → Res D} {δ : DS} (h1 : δ[sa]? = some (some (.int a))) (h2 : δ[sb]? = some (some (.int b))) (h3 : si ≠ sa) (h4 : si ≠ sb) (h5 : si < δ.length)
    (hf : ∀ x : D, fm ((δ.set si none).set si (some x)) = .ok (.int m)) :
    lcL (lcT [si] (setD si) bYes (p2 addD (pVar sa) (p2 fdivD (p2 mulD (p2 subD (pVar sb) (pVar sa)) (pVar si)) fm)) δ) (rngD 1 rows.toNat) = .ok ((cnt a b m rows).map .int) := by
  unfold rngD cnt
  rw [List.map_map]
  refine lcL_map fun i hi => ?_
  have e2 : ∀ z : Int, mulD (.int (b - a)) (.int z) = some (.int ((b - a) * z)) := fun z => mulD_ii _ _ (.inl (by omega))
  have e3 : ∀ z : Int, fdivD (.int z) (.int m) = some (.int (z.fdiv m)) := fun z => fdivD_ii _ _ (by omega)
  have g1 : ∀ x : D, ((δ.set si none).set si (some x))[si]? = some (some x) := fun x => List.getElem?_set_self (by rw [List.length_set]; exact h5)
  have g2 : ∀ x : D, ((δ.set si none).set si (some x))[sa]? = some (some (.int a)) := fun x => by rw [List.getElem?_set_ne h3, List.getElem?_set_ne h3, h1]
  have g3 : ∀ x : D, ((δ.set si none).set si (some x))[sb]? = some (some (.int b)) := fun x => by rw [List.getElem?_set_ne h4, List.getElem?_set_ne h4, h2]
  unfold lcT
  simp (config := { implicitDefEqProofs := false }) only [setD_e, wipeD_cons, wipeD_nil, putAll_cons, putAll_nil, bYes_e, p2_e, pC_e, pVar_e, g1, g2, g3, bind_ok, e2, e3, resO_some, addD_ii, subD_ii, hf, Function.comp_def]
theorem cnt_len (a b m rows : Int) : (cnt a b m rows).length = rows.toNat := by unfold cnt; rw [List.length_map, List.length_range]
theorem stp_lc (xs ys : List Int) {s1 s2 : Nat} {δ : DS} (h : s1 ≠ s2) (h1 : s1 < δ.length) (h2 : s2 < δ.length) :
    lcL (lcT [s1, s2] (tupN 2 (gsCons (setD s1) (gsCons (setD s2) gsNil))) bYes (pCB absD (aCons (p2 subD (pVar s1) (pVar s2)) aNil)) δ) (zipL (xs.map D.int) (ys.map D.int)) = .ok (((List.zip xs ys).map fun p => absI (p.1 - p.2)).map .int) := by
  rw [zip_ints, List.map_map]
  refine lcL_map fun p _ => ?_
  have g1 : ∀ (δ : DS) (x y : D), s1 < δ.length → ((δ.set s1 (some x)).set s2 (some y))[s1]? = some (some x) := fun δ x y z => by rw [List.getElem?_set_ne (Ne.symm h), List.getElem?_set_self z]
  have g2 : ∀ (δ : DS) (x y : D), s2 < δ.length → ((δ.set s1 (some x)).set s2 (some y))[s2]? = some (some y) := fun δ x y z => by rw [List.getElem?_set_self (by rw [List.length_set]; exact z)]
  have z1 : s1 < (δ.set s2 none).length := by rw [List.length_set]; exact h1
  have z2 : s2 < (δ.set s2 none).length := by rw [List.length_set]; exact h2
  unfold lcT
  have y1 := fun x y => g1 _ x y z1
  have y2 := fun x y => g2 _ x y z2
  simp (config := { implicitDefEqProofs := false }) [y1, y2, absI]
theorem max_lt {x m : Int} {xs : List Int} (h : maxI (x :: xs) = some m) (t : Int) : t < m ↔ ∃ y ∈ x :: xs, t < y := by
  cases h
  obtain ⟨h1, h2⟩ := foldl_max xs x
  exact ⟨fun z => ⟨_, h1, z⟩, fun ⟨y, hy, z⟩ => Int.lt_of_lt_of_le z (h2 y hy)⟩

theorem absD_a (i : Int) : absD [.int i] = some (.int (absI i)) := rfl
theorem far_lc (xs ys : List Int) {s1 s2 sm : Nat} {most : Int} {δ : DS} (h : s1 ≠ s2) (h1 : s1 < δ.length) (h2 : s2 < δ.length) (h3 : δ[sm]? = some (some (.int most))) (h4 : s1 ≠ sm) (h5 : s2 ≠ sm) :
    lcL (lcT [s1, s2] (tupN 2 (gsCons (setD s1) (gsCons (setD s2) gsNil))) bYes (p2 gtD (pCB absD (aCons (p2 subD (pVar s1) (pVar s2)) aNil)) (pVar sm)) δ) (zipL (xs.map D.int) (ys.map D.int)) = .ok (((List.zip xs ys).map fun p => decide (most < absI (p.1 - p.2))).map .bl) := by
  rw [zip_ints, List.map_map]
  refine lcL_map fun p _ => ?_
  have g1 : ∀ (δ : DS) (x y : D), s1 < δ.length → ((δ.set s1 (some x)).set s2 (some y))[s1]? = some (some x) := fun δ x y z => by rw [List.getElem?_set_ne (Ne.symm h), List.getElem?_set_self z]
  have g2 : ∀ (δ : DS) (x y : D), s2 < δ.length → ((δ.set s1 (some x)).set s2 (some y))[s2]? = some (some y) := fun δ x y z => by rw [List.getElem?_set_self (by rw [List.length_set]; exact z)]
  have z1 : s1 < (δ.set s2 none).length := by rw [List.length_set]; exact h1
  have z2 : s2 < (δ.set s2 none).length := by rw [List.length_set]; exact h2
  have y1 := fun x y => g1 _ x y z1
  have y2 := fun x y => g2 _ x y z2
  have y3 : ∀ x y : D, (((δ.set s2 none).set s1 (some x)).set s2 (some y))[sm]? = some (some (.int most)) := fun x y => by
    rw [List.getElem?_set_ne h5, List.getElem?_set_ne h4, List.getElem?_set_ne h5, h3]
  unfold lcT
  simp (config := { implicitDefEqProofs := false }) [y1, y2, y3, absD_a, -absD_i]
/-- the last of the counts -/
theorem last_at (a : Int) (L : List Int) : atI ((a :: L).map D.int) (-1) = some (.int ((a :: L).getLast (List.cons_ne_nil _ _))) := by
  have e : ∀ l : List Int, (h : l ≠ []) → atI (l.map D.int) (-1) = some (.int (l.getLast h)) := fun l h => by
    have hp : 0 < l.length := List.length_pos_iff.mpr h
    unfold atI ixN
    rw [if_neg (by omega), if_pos (by rw [List.length_map]; omega)]
    show (l.map D.int)[((-1 : Int) + ((l.map D.int).length : Int)).toNat]? = _
    rw [List.length_map, show ((-1 : Int) + (l.length : Int)).toNat = l.length - 1 by omega, List.getElem?_map, List.getLast_eq_getElem h, List.getElem?_eq_getElem (by omega)]
    rfl
  exact e _ _
def mdl (rows : Int) : Int := if rows > 1 then rows else 1
def farB (a b rows most : Int) : Bool := !decide ((a :: cnt a b (mdl rows) rows).getLast (List.cons_ne_nil _ _) = b) || (stp a (cnt a b (mdl rows) rows)).any fun s => decide (most < s)
def ansS (a b rows most : Int) : D := if farB a b rows most then .tup [.str "far"] else .tup [.str "rows", .tup ((cnt a b (mdl rows) rows).map .int)]
theorem any_bls (l : List Bool) : anyD [.lst (l.map D.bl)] = some (.bl (l.any id)) := by
  show (blsOf (l.map D.bl)).map _ = _
  rw [blsOf_map]; rfl
theorem shaped_ok {a b rows most : Int} (ha : 1 ≤ a ∧ a ≤ 40) (hb : 1 ≤ b ∧ b ≤ 40) (hr : 0 ≤ rows ∧ rows ≤ 20) (hm : 1 ≤ most ∧ most ≤ 10) : den_shaped [.int a, .int b, .int rows, .int most] = .ok (ansS a b rows most) := by
  have w1 := within_ok (x := a) (lo := 1) (hi := 40) ha.1 ha.2
  have w2 := within_ok (x := b) (lo := 1) (hi := 40) hb.1 hb.2
  have w3 := within_ok (x := rows) (lo := 0) (hi := 20) hr.1 hr.2
  have w4 := within_ok (x := most) (lo := 1) (hi := 10) hm.1 hm.2
  have hmd : 1 ≤ mdl rows ∧ mdl rows ≤ 20 := by unfold mdl; split <;> omega
  have em : maxD [.int 1, .int rows] = some (.int (mdl rows)) := rfl
  have el := cnt_lc (rows := rows) ha hb hmd (sa := 0) (sb := 1) (si := 5) (fm := pCB maxD (aCons (pC (.int 1)) (aCons (pVar 2) aNil))) (δ := [some (.int a), some (.int b), some (.int rows), some (.int most), none, none, none, none]) rfl rfl (by decide) (by decide) (by simp) (fun x => by simp [em])
  have er : range2D [.int 1, .int (rows + 1)] = some (rngD 1 rows.toNat) := by
    rw [range2_eq (by omega) (by omega)]; congr 3; omega
  let L := cnt a b (mdl rows) rows
  have hL : L.length ≤ 20 := by rw [show L.length = rows.toNat from cnt_len _ _ _ _]; omega
  have h20 : (21 : Nat) ≤ LN := by decide
  have hL1 : L.length ≤ LN := by omega
  have hL2 : 1 + L.length ≤ LN := by omega
  have hz : ((List.zip (a :: L) L).map fun p => decide (most < absI (p.1 - p.2))).length ≤ LN := by
    rw [List.length_map, List.length_zip]; omega
  have l1 : 1 ≤ LN := by decide
  have l2 : 2 ≤ LN := by decide
  have la := last_at a L
  have ef := far_lc (a :: L) L (s1 := 6) (s2 := 7) (sm := 3) (most := most) (δ := [some (.int a), some (.int b), some (.int rows), some (.int most), some (.lst ((a :: L).map .int)), none, none, none]) (by decide) (by simp) (by simp) rfl (by decide) (by decide)
  have es : (stp a L).any (fun s => decide (most < s)) = ((List.zip (a :: L) L).map fun p => decide (most < absI (p.1 - p.2))).any id := by
    unfold stp; rw [List.any_map, List.any_map]; rfl
  have ea := any_bls ((List.zip (a :: L) L).map fun p => decide (most < absI (p.1 - p.2)))
  have dl : ((a :: L).map D.int).drop 1 = L.map D.int := rfl
  have e0 : ansS a b rows most = if (!decide ((a :: L).getLast (List.cons_ne_nil _ _) = b) || ((List.zip (a :: L) L).map fun p => decide (most < absI (p.1 - p.2))).any id) then D.tup [.str "far"] else .tup [.str "rows", .tup (L.map .int)] := by
    show (if (!decide ((a :: L).getLast (List.cons_ne_nil _ _) = b) || (stp a L).any fun s => decide (most < s)) = true then _ else _) = _
    rw [es]
  rw [e0]
  have el : lcL _ _ = .ok (L.map .int) := el
  clear_value L
  generalize hlast : (a :: L).getLast (List.cons_ne_nil _ _) = last at la
  generalize hbs : ((List.zip (a :: L) L).map fun p => decide (most < absI (p.1 - p.2))) = bs at ef ea hz
  refine denP_rt (δ := [some (.int a), some (.int b), some (.int rows), some (.int most), some (.lst ((a :: L).map .int)), none, none, none]) rfl ?_
  show body_shaped [some (.int a), some (.int b), some (.int rows), some (.int most), none, none, none, none] = _
  have p1 : q_shaped_1 [some (.int a), some (.int b), some (.int rows), some (.int most), none, none, none, none] = .nx [some (.int a), some (.int b), some (.int rows), some (.int most), none, none, none, none] := by
    unfold q_shaped_1 D_MOST_LOOPS
    simp (config := { implicitDefEqProofs := false }) [w1, w2]
  have p3 : q_shaped_3 [some (.int a), some (.int b), some (.int rows), some (.int most), none, none, none, none] = .nx [some (.int a), some (.int b), some (.int rows), some (.int most), none, none, none, none] := by
    unfold q_shaped_3 D_MOST_SHAPED
    simp (config := { implicitDefEqProofs := false }) [w3, w4]
  have es4 : sSet 4 (xM [] (p2 addD (pLst (aCons (pVar 0) aNil)) (pLc [5] (iR range2D (aCons (pC (.int 1)) (aCons (p2 addD (pVar 2) (pC (.int 1))) aNil))) (setD 5) bYes (p2 addD (pVar 0) (p2 fdivD (p2 mulD (p2 subD (pVar 1) (pVar 0)) (pVar 5)) (pCB maxD (aCons (pC (.int 1)) (aCons (pVar 2) aNil)))))))) [some (.int a), some (.int b), some (.int rows), some (.int most), none, none, none, none]
      = .nx [some (.int a), some (.int b), some (.int rows), some (.int most), some (.lst ((a :: L).map .int)), none, none, none] := by
    simp (config := { implicitDefEqProofs := false }) [l1, er, el, hL1, hL2]
  unfold body_shaped
  rw [sSeq_e, p1]
  dsimp only
  rw [sSeq_e, p3]
  dsimp only
  rw [sSeq_e, es4]
  dsimp only
  unfold q_shaped_6 D_FAR D_ROWS
  generalize hC : (a :: L).map D.int = C at la ef dl
  by_cases q : last = b
  · cases hq : bs.any id with
    | true => simp (config := { implicitDefEqProofs := false }) [la, zipD, cut1, dl, ef, ea, hz, hq, q, l1, -List.drop_one]
    | false => simp (config := { implicitDefEqProofs := false }) [la, zipD, cut1, dl, ef, ea, hz, hq, q, l1, l2, -List.drop_one]
  · simp (config := { implicitDefEqProofs := false }) [la, q, l1]
end Lw

set_option Elab.async false
set_option linter.all false
set_option maxRecDepth 100000
set_option autoImplicit false
set_option maxHeartbeats 4000000
namespace Lw
open PySem PySem.Spec L2 Dn
open PyProof.Rows hiding St
theorem all_bls (l : List Bool) : allD [.lst (l.map D.bl)] = some (.bl (l.all id)) := by
  show (blsOf (l.map D.bl)).map _ = _
  rw [blsOf_map]; rfl
theorem all_true {α : Type} (l : List α) : ((l.map fun _ => true).map D.bl).length = l.length ∧ allD [.lst ((l.map fun _ => true).map D.bl)] = some (.bl true) := ⟨by simp, by rw [all_bls]; simp⟩
theorem in_takes : ∀ x ∈ ltrs, inD (.str x) D_TAKES = some (.bl true) := by decide +kernel
theorem is_row_ok {r : Str} (h : RowGood r) : den_is_row [.str r] = .ok (.bl true) := by
  obtain ⟨h1, h2, h3⟩ := h
  refine denP_rt (δ := [some (.str r), none]) rfl ?_
  show body_is_row [some (.str r), none] = _
  have el : lcL (lcT [1] (setD 1) bYes (p2 inD (pVar 1) (pC D_TAKES)) [some (.str r), none]) ((sgn r).map D.str) = .ok (((sgn r).map fun _ => true).map D.bl) := by
    rw [List.map_map]
    refine lcL_map fun x hx => ?_
    have ei := in_takes x (h1 x hx)
    simp (config := { implicitDefEqProofs := false }) [lcT, ei]
  obtain ⟨al, aa⟩ := all_true (sgn r)
  have h12 : (12 : Nat) ≤ LN := by decide
  have hl : (((sgn r).map fun _ => true).map D.bl).length ≤ LN := by rw [al, sgn_len]; omega
  have hrl : r.length ≤ LN := by omega
  have k1 : (1 : Int) ≤ r.length := by omega
  have k2 : (r.length : Int) ≤ 12 := by omega
  generalize ((sgn r).map fun _ => true).map D.bl = bs at el aa hl
  unfold body_is_row D_MOST_STITCHES
  simp (config := { implicitDefEqProofs := false }) [isi1D, tyName, isiB, hrl, k1, k2, walk_sgn, el, hl, aa]
theorem check_row_ok {r : Str} (h : RowGood r) : den_check_row [.str r] = .ok .non := by
  refine denP_nx (δ := [some (.str r)]) rfl ?_
  show body_check_row [some (.str r)] = _
  unfold body_check_row q_check_row_1
  simp (config := { implicitDefEqProofs := false }) [is_row_ok h]
theorem is_chart_ok {rs : List Str} (h : ∀ r ∈ rs, RowGood r) (h1 : rs ≠ []) (h2 : rs.length ≤ 5) : den_is_chart [.tup (rs.map D.str)] = .ok (.bl true) := by
  have es : den_is_sized [.tup (rs.map D.str), .int 1, .int 6] = .ok (.bl true) := by
    refine denP_rt (δ := [some (.tup (rs.map D.str)), some (.int 1), some (.int 6)]) rfl ?_
    show body_is_sized [some (.tup (rs.map D.str)), some (.int 1), some (.int 6)] = _
    have hp := List.length_pos_iff.mpr h1
    have k1 : (1 : Int) ≤ rs.length := by omega
    have k2 : (rs.length : Int) ≤ 6 := by omega
    unfold body_is_sized
    simp (config := { implicitDefEqProofs := false }) [isi1D, tyName, isiB, k1, k2]
  refine denP_rt (δ := [some (.tup (rs.map D.str)), none]) rfl ?_
  show body_is_chart [some (.tup (rs.map D.str)), none] = _
  have el : lcL (lcT [1] (setD 1) bYes (pCall den_is_row (aCons (pVar 1) aNil)) [some (.tup (rs.map D.str)), none]) (rs.map D.str) = .ok ((rs.map fun _ => true).map D.bl) := by
    rw [List.map_map]
    refine lcL_map fun x hx => ?_
    simp (config := { implicitDefEqProofs := false }) [lcT, is_row_ok (h x hx)]
  obtain ⟨al, aa⟩ := all_true rs
  have h12 : (12 : Nat) ≤ LN := by decide
  have hl : ((rs.map fun _ => true).map D.bl).length ≤ LN := by rw [al]; omega
  generalize (rs.map fun _ => true).map D.bl = bs at el aa hl
  unfold body_is_chart D_MOST_ROWS
  simp (config := { implicitDefEqProofs := false }) [es, el, hl, aa]
theorem undo_ok {rs : List Str} {many : Int} (h : ∀ r ∈ rs, RowGood r) (h1 : rs ≠ []) (h2 : rs.length ≤ 5) (m0 : 0 ≤ many) (m1 : many ≤ rs.length) :
    den_undo [.tup (rs.map D.str), .int many] = .ok (.tup (cutL (rs.map D.str) none (some ((rs.length : Int) - many)))) := by
  have ec : den_check_chart [.tup (rs.map D.str)] = .ok .non := by
    refine denP_nx (δ := [some (.tup (rs.map D.str))]) rfl ?_
    show body_check_chart [some (.tup (rs.map D.str))] = _
    unfold body_check_chart q_check_chart_1
    simp (config := { implicitDefEqProofs := false }) [is_chart_ok h h1 h2]
  have ew := within_ok (x := many) (lo := 0) (hi := rs.length) m0 m1
  refine denP_rt (δ := [some (.tup (rs.map D.str)), some (.int many)]) rfl ?_
  show body_undo [some (.tup (rs.map D.str)), some (.int many)] = _
  unfold body_undo q_undo_2
  simp (config := { implicitDefEqProofs := false }) [ec, ew]
/-! rows turned -/
def tr (x : Str) : Str := if x = "k" then "p" else if x = "p" then "k" else if x = "d" then "e" else if x = "e" then "d" else x
theorem tr_get : ∀ x ∈ ltrs, dgetD D_OTHERS [.str x, .str x] = some (.str (tr x)) ∧ dgetD (.dct 0 [.str "k", .str "p", .str "d", .str "e"] [.str "p", .str "k", .str "e", .str "d"]) [.str x, .str x] = some (.str (tr x)) ∧ tr x ∈ ltrs ∧ tr (tr x) = x := by decide +kernel
theorem join_eq (l : List Str) : Txt.join "" l = Str.join "" l := eq_of_beq (join_plain_closes "" l)
theorem sgn_join : ∀ l : List Str, (∀ x ∈ l, sgn x = [x]) → sgn (Str.join "" l) = l
  | [], _ => by kernel_rfl
  | [x], h => h x List.mem_cons_self
  | x :: y :: r, h => by
    show sgn (x ++ "" ++ Str.join "" (y :: r)) = _
    rw [sgn_app, sgn_app, h x List.mem_cons_self, sgn_join (y :: r) fun z hz => h z (List.mem_cons_of_mem _ hz), show sgn "" = [] by kernel_rfl]
    rfl
def turnS (r : Str) : Str := Txt.join "" ((sgn r).reverse.map tr)
theorem turn_sgn {r : Str} (h : RowOk r) : sgn (turnS r) = (sgn r).reverse.map tr := by
  unfold turnS
  rw [join_eq]
  refine sgn_join _ fun x hx => ?_
  obtain ⟨y, hy, rfl⟩ := List.mem_map.mp hx
  exact (ltrs_ok _ (tr_get y (h y (List.mem_reverse.mp hy))).2.2.1).2.2
theorem turn_good {r : Str} (h : RowGood r) : RowGood (turnS r) := by
  have e := turn_sgn h.1
  have el : (turnS r).length = r.length := by rw [← sgn_len, e, List.length_map, List.length_reverse, sgn_len]
  refine ⟨fun x hx => ?_, by rw [el]; exact h.2.1, by rw [el]; exact h.2.2⟩
  rw [e] at hx
  obtain ⟨y, hy, rfl⟩ := List.mem_map.mp hx
  exact (tr_get y (h.1 y (List.mem_reverse.mp hy))).2.2.1
theorem sgn_inj {a b : Str} (h : sgn a = sgn b) : a = b := by
  have e : ∀ l m : List Nat, (l.map fun c => (⟨#[c]⟩ : Str)) = m.map (fun c => ⟨#[c]⟩) → l = m := fun l => by
    induction l with
    | nil => intro m h; cases m with | nil => rfl | cons x m => simp at h
    | cons x l ih => intro m h; cases m with
      | nil => simp at h
      | cons y m =>
        rw [List.map_cons, List.map_cons] at h
        injection h with h1 h2
        injection h1 with h1
        have h3 : x = y := by simpa using h1
        rw [h3, ih m h2]
  have := e _ _ h
  cases a; cases b
  congr 1
  exact Array.toList_inj.mp this
theorem turn_twice {r : Str} (h : RowGood r) : turnS (turnS r) = r := by
  refine sgn_inj ?_
  rw [turn_sgn (turn_good h).1, turn_sgn h.1, ← List.map_reverse, List.reverse_reverse, List.map_map]
  refine (List.map_congr_left fun x hx => ?_).trans (List.map_id _)
  exact (tr_get x (h.1 x hx)).2.2.2
theorem row_str {r : Str} (h : RowOk r) : StrOk r = true := by
  unfold StrOk
  rw [Array.all_eq_true_iff_forall_mem]
  intro c hc
  have hm : (⟨#[c]⟩ : Str) ∈ sgn r := List.mem_map.mpr ⟨c, Array.mem_toList_iff.mpr hc, rfl⟩
  have := (ltrs_ok _ (h _ hm)).1
  unfold StrOk at this
  simpa using this
theorem strs_map : ∀ l : List Str, strsOf (l.map D.str) = some l
  | [] => rfl
  | x :: l => by show (strsOf (l.map D.str)).map (x :: ·) = _; rw [strs_map l]; rfl
theorem sum_ones : ∀ l : List Str, (∀ x ∈ l, x.length = 1) → (l.map (·.length)).sum = l.length
  | [], _ => rfl
  | x :: l, h => by rw [List.map_cons, List.sum_cons, h x List.mem_cons_self, sum_ones l fun y hy => h y (List.mem_cons_of_mem _ hy), List.length_cons]; omega
theorem turn_join {r : Str} (h : RowGood r) : joinD (.str "") [.lst (((sgn r).reverse.map tr).map D.str)] = some (.str (turnS r)) := by
  show joinG "" (((sgn r).reverse.map tr).map D.str) = _
  unfold joinG
  rw [strs_map, Option.bind_some, if_pos]
  · rfl
  · rw [sum_ones _ fun x hx => ?_]
    · rw [show ("" : Str).length = 0 by kernel_rfl, List.length_map, List.length_reverse, sgn_len]
      have := h.2.2
      omega
    · obtain ⟨y, hy, rfl⟩ := List.mem_map.mp hx
      exact (ltrs_ok _ (tr_get y (h.1 y (List.mem_reverse.mp hy))).2.2.1).2.1
theorem rev_s {r : Str} (h : RowGood r) : ∃ z : Str, revD (.str r) = some (.str z) ∧ sgn z = (sgn r).reverse := by
  have h12 : (12 : Nat) ≤ LN := by decide
  refine ⟨revS r, if_pos (by have := h.2.2; omega), ?_⟩
  unfold revS sgn
  rw [← List.map_reverse]
theorem turn_ok {r : Str} (h : RowGood r) : den_turn_stitches [.str r] = .ok (.str (turnS r)) := by
  refine denP_rt (δ := [some (.str r), none]) rfl ?_
  show body_turn_stitches [some (.str r), none] = _
  obtain ⟨z, ez, es⟩ := rev_s h
  have el : lcL (lcT [1] (setD 1) bYes (pM "dict" dgetD (pC D_OTHERS) (aCons (pVar 1) (aCons (pVar 1) aNil))) [some (.str r), none]) ((sgn z).map D.str) = .ok (((sgn r).reverse.map tr).map D.str) := by
    rw [es, List.map_map]
    refine lcL_map fun x hx => ?_
    have eg := (tr_get x (h.1 x (List.mem_reverse.mp hx))).1
    have er : recvOk "dict" D_OTHERS = true := rfl
    simp (config := { implicitDefEqProofs := false }) [lcT, eg, er]
  have h12 : (12 : Nat) ≤ LN := by decide
  have hl : (((sgn r).reverse.map tr).map D.str).length ≤ LN := by
    rw [List.length_map, List.length_map, List.length_reverse, sgn_len]; have := h.2.2; omega
  have ej := turn_join h
  generalize ((sgn r).reverse.map tr).map D.str = ts at el hl ej
  unfold body_turn_stitches
  simp (config := { implicitDefEqProofs := false }) [check_row_ok h, recvOk, ez, walk_sgn, el, hl, ej]
end Lw

set_option Elab.async false
set_option linter.all false
set_option maxRecDepth 100000
set_option autoImplicit false
set_option maxHeartbeats 4000000
namespace Lw
open PySem PySem.Spec L2 Dn
open PyProof.Rows hiding St
/-! ### the law's own figures -/
theorem cnt_zero {a b m rows : Int} (h : rows ≤ 0) : cnt a b m rows = [] := by
  unfold cnt; rw [show rows.toNat = 0 by omega]; rfl
theorem mdl_eq {rows : Int} (h : 0 < rows) : mdl rows = rows := by unfold mdl; split <;> omega
theorem last_b {a b rows : Int} (h : 0 < rows) : (a :: cnt a b (mdl rows) rows).getLast (List.cons_ne_nil _ _) = b := by
  have hn : cnt a b (mdl rows) rows ≠ [] := fun z => by have := cnt_len a b (mdl rows) rows; rw [z] at this; simp at this; omega
  rw [List.getLast_cons hn, List.getLast_eq_getElem]
  unfold cnt
  rw [List.getElem_map, List.getElem_range]
  simp only [List.length_map, List.length_range]
  rw [mdl_eq h, show (1 + ((rows.toNat - 1 : Nat) : Int)) = rows by omega, Int.mul_fdiv_cancel _ (by omega)]
  omega
theorem max_some (x : Int) (xs : List Int) : ∃ m, maxI (x :: xs) = some m := ⟨_, rfl⟩
theorem max_ints {x : Int} {xs : List Int} {m : Int} (h : maxI (x :: xs) = some m) : maxD [.lst ((x :: xs).map .int)] = some (.int m) := by
  show (intsOf ((x :: xs).map D.int)).bind (fun ns => (maxI ns).map D.int) = _
  rw [intsOf_map]; show (maxI (x :: xs)).map _ = _; rw [h]; rfl
theorem far_eq {a b rows most m : Int} (hr : 0 ≤ rows) (hm : 1 ≤ most) (h : maxI (0 :: stp a (cnt a b (mdl rows) rows)) = some m) :
    (decide (most < m) || (decide (rows = 0) && !decide (a = b))) = farB a b rows most := by
  have e1 : decide (most < m) = (stp a (cnt a b (mdl rows) rows)).any fun s => decide (most < s) := by
    rw [Bool.eq_iff_iff]
    simp only [decide_eq_true_eq, List.any_eq_true]
    rw [max_lt h]
    constructor
    · rintro ⟨y, hy, z⟩
      rcases List.mem_cons.mp hy with rfl | hy
      · omega
      · exact ⟨y, hy, z⟩
    · rintro ⟨y, hy, z⟩
      exact ⟨y, List.mem_cons_of_mem _ hy, z⟩
  unfold farB
  rw [e1]
  by_cases q : 0 < rows
  · rw [last_b q]
    have : ¬ rows = 0 := by omega
    simp [this]
  · have q0 : rows = 0 := by omega
    subst q0
    have e : cnt a b (mdl 0) 0 = [] := cnt_zero (by omega)
    simp only [e]
    by_cases hab : a = b <;> simp [stp, hab]
theorem gap_ok {n k i : Int} (hk : 0 < k) : (2 * n) / (2 * k) ≤ ((2 * (i + 1) + 1) * n) / (2 * k) - ((2 * i + 1) * n) / (2 * k) ∧ ((2 * (i + 1) + 1) * n) / (2 * k) - ((2 * i + 1) * n) / (2 * k) ≤ (2 * n) / (2 * k) + 1 := by
  have ex : (2 * (i + 1) + 1) * n = (2 * i + 1) * n + 2 * n := by
    rw [← Int.add_mul]; congr 1; omega
  rw [ex]
  generalize (2 * i + 1) * n = X
  generalize 2 * n = Y
  have hd : 0 < 2 * k := by omega
  generalize 2 * k = Dd at hd
  have a1 := Int.mul_ediv_add_emod X Dd
  have a2 := Int.emod_nonneg X (show Dd ≠ 0 by omega)
  have a3 := Int.emod_lt_of_pos X hd
  have b1 := Int.mul_ediv_add_emod Y Dd
  have b2 := Int.emod_nonneg Y (show Dd ≠ 0 by omega)
  have b3 := Int.emod_lt_of_pos Y hd
  have c1 : X / Dd + Y / Dd ≤ (X + Y) / Dd := by
    refine (Int.le_ediv_iff_mul_le hd).mpr ?_
    rw [Int.add_mul, Int.mul_comm (X / Dd), Int.mul_comm (Y / Dd)]
    omega
  have c2 : (X + Y) / Dd < X / Dd + Y / Dd + 2 := by
    refine (Int.ediv_lt_iff_lt_mul hd).mpr ?_
    rw [Int.add_mul, Int.add_mul, Int.mul_comm (X / Dd), Int.mul_comm (Y / Dd)]
    omega
  omega
def gapL (P : List Int) : List Int := (List.zip P (P.drop 1)).map fun p => p.2 - p.1
theorem gaps_between {n k : Int} : ∀ g ∈ gapL (places n k), (2 * n) / (2 * k) ≤ g ∧ g ≤ (2 * n) / (2 * k) + 1 := by
  intro g hg
  obtain ⟨p, hp, rfl⟩ := List.mem_map.mp hg
  obtain ⟨i, hi⟩ := List.mem_iff_getElem?.mp hp
  rw [List.getElem?_zip_eq_some, List.getElem?_drop] at hi
  obtain ⟨h1, h2⟩ := hi
  unfold places at h1 h2
  rw [List.getElem?_map] at h1 h2
  have hl : 1 + i < k.toNat := by
    by_cases q : 1 + i < k.toNat
    · exact q
    · rw [List.getElem?_eq_none (by rw [List.length_range]; omega)] at h2; cases h2
  rw [List.getElem?_range (by omega)] at h1 h2
  have k0 : 0 < k := by omega
  have e1 : p.1 = ((2 * (0 + (i : Int)) + 1) * n).fdiv (2 * k) := by simpa using h1.symm
  have e2 : p.2 = ((2 * (0 + ((1 + i : Nat) : Int)) + 1) * n).fdiv (2 * k) := by simpa using h2.symm
  rw [e2, e1, Int.fdiv_eq_ediv_of_nonneg _ (by omega), Int.fdiv_eq_ediv_of_nonneg _ (by omega)]
  have := gap_ok (n := n) (k := k) (i := i) k0
  rw [show (0 + ((1 + i : Nat) : Int)) = (i : Int) + 1 by omega, show (0 + (i : Int)) = i by omega]
  exact this
theorem gaps_ok {n k : Int} {x : Int} {xs : List Int} (h : gapL (places n k) = x :: xs) : ∃ m l, maxI (x :: xs) = some m ∧ minI (x :: xs) = some l ∧ ¬ 1 < m - l := by
  have hg := gaps_between (n := n) (k := k)
  rw [h] at hg
  obtain ⟨h1, h2⟩ := foldl_max xs x
  obtain ⟨h3, h4⟩ := foldl_min xs x
  refine ⟨_, _, rfl, rfl, ?_⟩
  have := hg _ h1
  have := hg _ h3
  omega
end Lw

set_option Elab.async false
set_option linter.all false
set_option maxRecDepth 100000
set_option autoImplicit false
set_option maxHeartbeats 4000000
namespace Lw
open PySem PySem.Spec L2 Dn
open PyProof.Rows hiding St

noncomputable def gq0 : DS → Out := sTg (tupN 2 (gsCons (setD 3) (gsCons (setD 4) (gsNil)))) (xTup (xCons (x2 addD (xM [1] (pC (.int 1))) (xIO 1 (den__law_draw) (xCons (xM [1] (pC (.int 40))) (xNil)))) (xCons (x2 addD (xM [1] (pC (.int 1))) (xIO 1 (den__law_draw) (xCons (xM [1] (pC (.int 40))) (xNil)))) (xNil))))
noncomputable def gq1 : DS → Out := sTg (tupN 2 (gsCons (setD 5) (gsCons (setD 6) (gsNil)))) (xTup (xCons (xIO 1 (den__law_draw) (xCons (xM [1] (pC (.int 21))) (xNil))) (xCons (x2 addD (xM [1] (pC (.int 1))) (xIO 1 (den__law_draw) (xCons (xM [1] (pC (.int 10))) (xNil)))) (xNil))))
noncomputable def gq2 : DS → Out := q_law_5
noncomputable def gq3 : DS → Out := sSet 7 (xM [1] (pIf (pB gtD (pVar 5) (pC (.int 0))) (pLc [8] (iR range2D (aCons (pC (.int 1)) (aCons (p2 addD (pVar 5) (pC (.int 1))) (aNil)))) (setD 8) (bYes) (p2 addD (pVar 3) (p2 fdivD (p2 mulD (p2 subD (pVar 4) (pVar 3)) (pVar 8)) (pVar 5)))) (pLst (aNil))))
noncomputable def gq4 : DS → Out := sSet 9 (xM [1] (pLc [10, 11] (iR zipD (aCons (p2 addD (pLst (aCons (pVar 3) (aNil))) (pVar 7)) (aCons (pVar 7) (aNil)))) (tupN 2 (gsCons (setD 10) (gsCons (setD 11) (gsNil)))) (bYes) (pCB absD (aCons (p2 subD (pVar 10) (pVar 11)) (aNil)))))
noncomputable def gq5 : DS → Out := sSet 12 (xM [1] (pOr (p2 gtD (pCB maxD (aCons (p2 addD (pLst (aCons (pC (.int 0)) (aNil))) (pVar 9)) (aNil))) (pVar 6)) (pAnd (p2 eqD (pVar 5) (pC (.int 0))) (p2 neD (pVar 3) (pVar 4)))))
noncomputable def gq6 : DS → Out := q_law_10
noncomputable def gq7 : DS → Out := sSet 13 (x2 addD (xM [1] (pC (.int 1))) (xIO 1 (den__law_draw) (xCons (xM [1] (pC (.int 40))) (xNil))))
noncomputable def gq8 : DS → Out := sSet 14 (xIO 1 (den__law_draw) (xCons (xM [1] (p2 addD (pVar 13) (pC (.int 1)))) (xNil)))
noncomputable def gq9 : DS → Out := sSet 15 (xM [1] (pCB tupleD (aCons (pLc [16] (iR range1D (aCons (pVar 14) (aNil))) (setD 16) (bYes) (p2 fdivD (p2 mulD (p2 addD (p2 mulD (pC (.int 2)) (pVar 16)) (pC (.int 1))) (pVar 13)) (p2 mulD (pC (.int 2)) (pVar 14)))) (aNil))))
noncomputable def gq10 : DS → Out := q_law_15
noncomputable def gq11 : DS → Out := sSet 17 (xM [1] (pLc [10, 11] (iR zipD (aCons (pVar 15) (aCons (pSl slD (pVar 15) (pPart (pC (.int 1))) (pNoPart)) (aNil)))) (tupN 2 (gsCons (setD 10) (gsCons (setD 11) (gsNil)))) (bYes) (p2 subD (pVar 11) (pVar 10))))
noncomputable def gq12 : DS → Out := q_law_18
noncomputable def gq13 : DS → Out := sSet 18 (xIO 1 (den__law_chart) (xNil))
noncomputable def gq14 : DS → Out := sSet 19 (xIO 1 (den__law_draw) (xCons (xM [1] (p2 addD (pCB lenD (aCons (pVar 18) (aNil))) (pC (.int 1)))) (xNil)))
noncomputable def gq15 : DS → Out := q_law_22
noncomputable def gq16 : DS → Out := q_law_24
theorem b_law_2_eq : b_law_2 = sSeq gq0 (sSeq gq1 (sSeq gq2 (sSeq gq3 (sSeq gq4 (sSeq gq5 (sSeq gq6 (sSeq gq7 (sSeq gq8 (sSeq gq9 (sSeq gq10 (sSeq gq11 (sSeq gq12 (sSeq gq13 (sSeq gq14 (sSeq gq15 (sSeq gq16 (sNil))))))))))))))))) := rfl
section
variable (y0 y1 y2 y3 y4 y5 y6 y7 y8 y9 y10 y11 y12 y13 y14 y15 y16 y17 y18 y19 y20 y21 y22 : Option D) {h : D}
theorem st0 (ho : HandOk h) : ∃ (a b : Int) (h' : D), gq0 [y0, some h, y2, y3, y4, y5, y6, y7, y8, y9, y10, y11, y12, y13, y14, y15, y16, y17, y18, y19, y20, y21, y22] = .nx [y0, some h', y2, some (.int a), some (.int b), y5, y6, y7, y8, y9, y10, y11, y12, y13, y14, y15, y16, y17, y18, y19, y20, y21, y22] ∧ HandOk h' ∧ (1 ≤ a ∧ a ≤ 40) ∧ (1 ≤ b ∧ b ≤ 40) := by
  obtain ⟨v1, h1, e1, a1, b1, ho1⟩ := draw_ok (many := 40) ho (by omega) (by omega)
  obtain ⟨v2, h2, e2, a2, b2, ho2⟩ := draw_ok (many := 40) ho1 (by omega) (by omega)
  have l2 : 2 ≤ LN := by decide
  refine ⟨1 + v1, 1 + v2, h2, ?_, ho2, by omega, by omega⟩
  unfold gq0
  simp (config := { implicitDefEqProofs := false }) [e1, e2, l2]
theorem st1 {a b : Int} (ho : HandOk h) : ∃ (rows most : Int) (h' : D), gq1 [y0, some h, y2, some (.int a), some (.int b), y5, y6, y7, y8, y9, y10, y11, y12, y13, y14, y15, y16, y17, y18, y19, y20, y21, y22] = .nx [y0, some h', y2, some (.int a), some (.int b), some (.int rows), some (.int most), y7, y8, y9, y10, y11, y12, y13, y14, y15, y16, y17, y18, y19, y20, y21, y22] ∧ HandOk h' ∧ (0 ≤ rows ∧ rows ≤ 20) ∧ (1 ≤ most ∧ most ≤ 10) := by
  obtain ⟨v1, h1, e1, a1, b1, ho1⟩ := draw_ok (many := 21) ho (by omega) (by omega)
  obtain ⟨v2, h2, e2, a2, b2, ho2⟩ := draw_ok (many := 10) ho1 (by omega) (by omega)
  have l2 : 2 ≤ LN := by decide
  refine ⟨v1, 1 + v2, h2, ?_, ho2, by omega, by omega⟩
  unfold gq1
  simp (config := { implicitDefEqProofs := false }) [e1, e2, l2]
theorem st2 {a b rows most : Int} (ho : HandOk h) (ha : 1 ≤ a ∧ a ≤ 40) (hb : 1 ≤ b ∧ b ≤ 40) : ∃ (b' : Int) (h' : D), gq2 [y0, some h, y2, some (.int a), some (.int b), some (.int rows), some (.int most), y7, y8, y9, y10, y11, y12, y13, y14, y15, y16, y17, y18, y19, y20, y21, y22] = .nx [y0, some h', y2, some (.int a), some (.int b'), some (.int rows), some (.int most), y7, y8, y9, y10, y11, y12, y13, y14, y15, y16, y17, y18, y19, y20, y21, y22] ∧ HandOk h' ∧ (1 ≤ b' ∧ b' ≤ 40) := by
  obtain ⟨v1, h1, e1, a1, b1, ho1⟩ := draw_ok (many := 3) ho (by omega) (by omega)
  by_cases q : v1 = 0
  · obtain ⟨v2, h2, e2, a2, b2, ho2⟩ := draw_ok (many := 9) ho1 (by omega) (by omega)
    have em : ∀ z : Int, minD [.int 40, .int z] = some (.int (if z < 40 then z else 40)) := fun _ => rfl
    have ex : ∀ z : Int, maxD [.int 1, .int z] = some (.int (if z > 1 then z else 1)) := fun _ => rfl
    refine ⟨if (if a + v2 - 4 < 40 then a + v2 - 4 else 40) > 1 then (if a + v2 - 4 < 40 then a + v2 - 4 else 40) else 1, h2, ?_, ho2, ?_⟩
    · unfold gq2 q_law_5
      simp (config := { implicitDefEqProofs := false }) [e1, q, e2, em, ex]
    · split <;> split <;> omega
  · refine ⟨b, h1, ?_, ho1, hb⟩
    unfold gq2 q_law_5
    simp (config := { implicitDefEqProofs := false }) [e1, q]
theorem st3 {a b rows most : Int} (ha : 1 ≤ a ∧ a ≤ 40) (hb : 1 ≤ b ∧ b ≤ 40) (hr : 0 ≤ rows ∧ rows ≤ 20) (hm : 1 ≤ most ∧ most ≤ 10) : gq3 [y0, some h, y2, some (.int a), some (.int b), some (.int rows), some (.int most), y7, y8, y9, y10, y11, y12, y13, y14, y15, y16, y17, y18, y19, y20, y21, y22] = .nx [y0, some h, y2, some (.int a), some (.int b), some (.int rows), some (.int most), some (.lst ((cnt a b (mdl rows) rows).map .int)), y8, y9, y10, y11, y12, y13, y14, y15, y16, y17, y18, y19, y20, y21, y22] := by
  have l0 : 0 ≤ LN := by decide
  by_cases q : 0 < rows
  · have el := cnt_lc (rows := rows) ha hb (show 1 ≤ rows ∧ rows ≤ 20 by omega) (sa := 3) (sb := 4) (si := 8) (fm := pVar 5) (δ := [y0, none, y2, some (.int a), some (.int b), some (.int rows), some (.int most), y7, y8, y9, y10, y11, y12, y13, y14, y15, y16, y17, y18, y19, y20, y21, y22]) rfl rfl (by decide) (by decide) (by simp) (fun x => by simp)
    have er : range2D [.int 1, .int (rows + 1)] = some (rngD 1 rows.toNat) := by
      rw [range2_eq (by omega) (by omega)]; congr 3; omega
    rw [mdl_eq q]
    have hl : (cnt a b rows rows).length ≤ LN := by
      rw [cnt_len]; have : (20 : Nat) ≤ LN := by decide
      omega
    unfold gq3
    simp (config := { implicitDefEqProofs := false }) [q, er, el, hl]
  · rw [cnt_zero (by omega)]
    unfold gq3
    simp (config := { implicitDefEqProofs := false }) [q, l0]
theorem len_cnt {a b rows : Int} (hr : 0 ≤ rows ∧ rows ≤ 20) : (cnt a b (mdl rows) rows).length ≤ 20 := by rw [cnt_len]; omega
theorem len_stp {a b rows : Int} (hr : 0 ≤ rows ∧ rows ≤ 20) : (stp a (cnt a b (mdl rows) rows)).length ≤ 20 := by
  have := len_cnt (a := a) (b := b) hr
  unfold stp; rw [List.length_map, List.length_zip]; omega
theorem st4 {a b rows most : Int} (ha : 1 ≤ a ∧ a ≤ 40) (hb : 1 ≤ b ∧ b ≤ 40) (hr : 0 ≤ rows ∧ rows ≤ 20) (hm : 1 ≤ most ∧ most ≤ 10) : gq4 [y0, some h, y2, some (.int a), some (.int b), some (.int rows), some (.int most), some (.lst ((cnt a b (mdl rows) rows).map .int)), y8, y9, y10, y11, y12, y13, y14, y15, y16, y17, y18, y19, y20, y21, y22] = .nx [y0, some h, y2, some (.int a), some (.int b), some (.int rows), some (.int most), some (.lst ((cnt a b (mdl rows) rows).map .int)), y8, some (.lst ((stp a (cnt a b (mdl rows) rows)).map .int)), y10, y11, y12, y13, y14, y15, y16, y17, y18, y19, y20, y21, y22] := by
  have hL := len_cnt (a := a) (b := b) hr
  have hS := len_stp (a := a) (b := b) hr
  have h21 : (21 : Nat) ≤ LN := by decide
  have es : (List.zip (a :: (cnt a b (mdl rows) rows)) (cnt a b (mdl rows) rows)).map (fun p => absI (p.1 - p.2)) = stp a (cnt a b (mdl rows) rows) := rfl
  generalize (cnt a b (mdl rows) rows) = L at *
  have el := stp_lc (a :: L) L (s1 := 10) (s2 := 11) (δ := [y0, none, y2, some (.int a), some (.int b), some (.int rows), some (.int most), some (.lst (L.map .int)), y8, y9, y10, y11, y12, y13, y14, y15, y16, y17, y18, y19, y20, y21, y22]) (by decide) (by simp) (by simp)
  rw [es] at el
  generalize stp a L = S at *
  have l1 : 1 ≤ LN := by decide
  have l2 : 1 + L.length ≤ LN := by omega
  have l3 : S.length ≤ LN := by omega
  rw [List.map_cons] at el
  unfold gq4
  simp (config := { implicitDefEqProofs := false }) [l1, l2, l3, zipD, el]
theorem st5 {a b rows most : Int} (ha : 1 ≤ a ∧ a ≤ 40) (hb : 1 ≤ b ∧ b ≤ 40) (hr : 0 ≤ rows ∧ rows ≤ 20) (hm : 1 ≤ most ∧ most ≤ 10) : gq5 [y0, some h, y2, some (.int a), some (.int b), some (.int rows), some (.int most), some (.lst ((cnt a b (mdl rows) rows).map .int)), y8, some (.lst ((stp a (cnt a b (mdl rows) rows)).map .int)), y10, y11, y12, y13, y14, y15, y16, y17, y18, y19, y20, y21, y22] = .nx [y0, some h, y2, some (.int a), some (.int b), some (.int rows), some (.int most), some (.lst ((cnt a b (mdl rows) rows).map .int)), y8, some (.lst ((stp a (cnt a b (mdl rows) rows)).map .int)), y10, y11, some (.bl (farB a b rows most)), y13, y14, y15, y16, y17, y18, y19, y20, y21, y22] := by
  have hS := len_stp (a := a) (b := b) hr
  have h21 : (21 : Nat) ≤ LN := by decide
  obtain ⟨m, em⟩ := max_some 0 (stp a (cnt a b (mdl rows) rows))
  have ex := max_ints em
  have ef := far_eq (b := b) hr.1 hm.1 em
  generalize stp a (cnt a b (mdl rows) rows) = S at *
  generalize (.lst ((cnt a b (mdl rows) rows).map .int) : D) = cs
  rw [List.map_cons] at ex
  have l1 : 1 ≤ LN := by decide
  have l2 : 1 + S.length ≤ LN := by omega
  rw [← ef]
  unfold gq5
  cases q1 : decide (most < m) with
  | true => simp (config := { implicitDefEqProofs := false }) [l1, l2, ex, of_decide_eq_true q1]
  | false =>
    have q1 := of_decide_eq_false q1
    by_cases q2 : rows = 0
    · simp (config := { implicitDefEqProofs := false }) [l1, l2, ex, q1, q2]
    · simp (config := { implicitDefEqProofs := false }) [l1, l2, ex, q1, q2]
theorem pl_ints (n : Nat) (l : List Int) (h : l.length ≤ LN) : Pl (n + 1) (.tup (l.map .int)) := .tup _ _ (fun d hd => by
  obtain ⟨x, _, rfl⟩ := List.mem_map.mp hd
  exact .int _ x) (by rw [List.length_map]; exact h)
theorem pl_ans {a b rows most : Int} (hr : 0 ≤ rows ∧ rows ≤ 20) : Pl 5 (ansS a b rows most) := by
  have hL := len_cnt (a := a) (b := b) hr
  have h21 : (21 : Nat) ≤ LN := by decide
  unfold ansS
  split
  · refine .tup _ _ (fun d hd => ?_) (by simp; omega)
    rw [List.mem_singleton.mp hd]
    exact .str _ _ (by decide +kernel)
  · refine .tup _ _ (fun d hd => ?_) (by simp; omega)
    rcases List.mem_cons.mp hd with rfl | hd
    · exact .str _ _ (by decide +kernel)
    · rw [List.mem_singleton.mp hd]
      exact pl_ints _ _ (by omega)
theorem st6 {a b rows most : Int} (ha : 1 ≤ a ∧ a ≤ 40) (hb : 1 ≤ b ∧ b ≤ 40) (hr : 0 ≤ rows ∧ rows ≤ 20) (hm : 1 ≤ most ∧ most ≤ 10) : gq6 [y0, some h, y2, some (.int a), some (.int b), some (.int rows), some (.int most), some (.lst ((cnt a b (mdl rows) rows).map .int)), y8, some (.lst ((stp a (cnt a b (mdl rows) rows)).map .int)), y10, y11, some (.bl (farB a b rows most)), y13, y14, y15, y16, y17, y18, y19, y20, y21, y22] = .nx [y0, some h, y2, some (.int a), some (.int b), some (.int rows), some (.int most), some (.lst ((cnt a b (mdl rows) rows).map .int)), y8, some (.lst ((stp a (cnt a b (mdl rows) rows)).map .int)), y10, y11, some (.bl (farB a b rows most)), y13, y14, y15, y16, y17, y18, y19, y20, y21, y22] := by
  have es := shaped_ok ha hb hr hm
  have ei := is_self 5 _ (pl_ans (a := a) (b := b) (most := most) hr)
  unfold ansS at es ei
  generalize (cnt a b (mdl rows) rows).map D.int = cs at *
  generalize (.lst ((stp a (cnt a b (mdl rows) rows)).map .int) : D) = ss
  have l1 : 1 ≤ LN := by decide
  have l2 : 2 ≤ LN := by decide
  unfold gq6 q_law_10
  cases q : farB a b rows most with
  | true =>
    rw [q] at es ei
    simp only [if_true] at es ei
    simp (config := { implicitDefEqProofs := false }) [es, ei, l1]
  | false =>
    rw [q] at es ei
    simp only [Bool.false_eq_true, if_false] at es ei
    simp (config := { implicitDefEqProofs := false }) [es, ei, l1, l2]
theorem st7 (ho : HandOk h) : ∃ (n : Int) (h' : D), gq7 [y0, some h, y2, y3, y4, y5, y6, y7, y8, y9, y10, y11, y12, y13, y14, y15, y16, y17, y18, y19, y20, y21, y22] = .nx [y0, some h', y2, y3, y4, y5, y6, y7, y8, y9, y10, y11, y12, some (.int n), y14, y15, y16, y17, y18, y19, y20, y21, y22] ∧ HandOk h' ∧ (1 ≤ n ∧ n ≤ 40) := by
  obtain ⟨v1, h1, e1, a1, b1, ho1⟩ := draw_ok (many := 40) ho (by omega) (by omega)
  refine ⟨1 + v1, h1, ?_, ho1, by omega⟩
  unfold gq7
  simp (config := { implicitDefEqProofs := false }) [e1]
theorem st8 {n : Int} (ho : HandOk h) (hn : 1 ≤ n ∧ n ≤ 40) : ∃ (k : Int) (h' : D), gq8 [y0, some h, y2, y3, y4, y5, y6, y7, y8, y9, y10, y11, y12, some (.int n), y14, y15, y16, y17, y18, y19, y20, y21, y22] = .nx [y0, some h', y2, y3, y4, y5, y6, y7, y8, y9, y10, y11, y12, some (.int n), some (.int k), y15, y16, y17, y18, y19, y20, y21, y22] ∧ HandOk h' ∧ (0 ≤ k ∧ k ≤ n) := by
  obtain ⟨v1, h1, e1, a1, b1, ho1⟩ := draw_ok (many := n + 1) ho (by omega) (by omega)
  refine ⟨v1, h1, ?_, ho1, by omega⟩
  unfold gq8
  simp (config := { implicitDefEqProofs := false }) [e1]
theorem len_pl {n k : Int} (hn : 1 ≤ n ∧ n ≤ 40) (hk : 0 ≤ k ∧ k ≤ n) : (places n k).length ≤ 40 := by rw [places_len]; omega
theorem st9 {n k : Int} (hn : 1 ≤ n ∧ n ≤ 40) (hk : 0 ≤ k ∧ k ≤ n) : gq9 [y0, some h, y2, y3, y4, y5, y6, y7, y8, y9, y10, y11, y12, some (.int n), some (.int k), y15, y16, y17, y18, y19, y20, y21, y22] = .nx [y0, some h, y2, y3, y4, y5, y6, y7, y8, y9, y10, y11, y12, some (.int n), some (.int k), some (.tup ((places n k).map .int)), y16, y17, y18, y19, y20, y21, y22] := by
  have el := places_lc hn hk (sn := 13) (sk := 14) (si := 16) (δ := [y0, none, y2, y3, y4, y5, y6, y7, y8, y9, y10, y11, y12, some (.int n), some (.int k), y15, y16, y17, y18, y19, y20, y21, y22]) rfl rfl (by decide) (by decide) (by simp)
  have er : range1D [.int k] = some (rngD 0 k.toNat) := range1_eq (by omega)
  have hl : (places n k).length ≤ LN := Nat.le_trans (len_pl hn hk) (by decide)
  unfold gPl at el
  unfold gq9
  simp (config := { implicitDefEqProofs := false }) [er, el, hl]
theorem st10 {n k : Int} (hn : 1 ≤ n ∧ n ≤ 40) (hk : 0 ≤ k ∧ k ≤ n) : gq10 [y0, some h, y2, y3, y4, y5, y6, y7, y8, y9, y10, y11, y12, some (.int n), some (.int k), some (.tup ((places n k).map .int)), y16, y17, y18, y19, y20, y21, y22] = .nx [y0, some h, y2, y3, y4, y5, y6, y7, y8, y9, y10, y11, y12, some (.int n), some (.int k), some (.tup ((places n k).map .int)), y16, y17, y18, y19, y20, y21, y22] := by
  have hl : (places n k).length ≤ LN := Nat.le_trans (len_pl hn hk) (by decide)
  have ee := even_ok hn hk
  have ei := is_self 5 _ (pl_ints 4 (places n k) hl)
  generalize (places n k).map D.int = ps at *
  unfold gq10 q_law_15
  simp (config := { implicitDefEqProofs := false }) [ee, ei]
theorem gap_lc (xs ys : List Int) {s1 s2 : Nat} {δ : DS} (h : s1 ≠ s2) (h1 : s1 < δ.length) (h2 : s2 < δ.length) :
    lcL (lcT [s1, s2] (tupN 2 (gsCons (setD s1) (gsCons (setD s2) gsNil))) bYes (Dn.p2 subD (pVar s2) (pVar s1)) δ) (zipL (xs.map D.int) (ys.map D.int)) = .ok (((List.zip xs ys).map fun p => p.2 - p.1).map .int) := by
  rw [zip_ints, List.map_map]
  refine lcL_map fun p _ => ?_
  have g1 : ∀ (δ : DS) (x y : D), s1 < δ.length → ((δ.set s1 (some x)).set s2 (some y))[s1]? = some (some x) := fun δ x y z => by rw [List.getElem?_set_ne (Ne.symm h), List.getElem?_set_self z]
  have g2 : ∀ (δ : DS) (x y : D), s2 < δ.length → ((δ.set s1 (some x)).set s2 (some y))[s2]? = some (some y) := fun δ x y z => by rw [List.getElem?_set_self (by rw [List.length_set]; exact z)]
  have z1 : s1 < (δ.set s2 none).length := by rw [List.length_set]; exact h1
  have z2 : s2 < (δ.set s2 none).length := by rw [List.length_set]; exact h2
  have y1 := fun x y => g1 _ x y z1
  have y2 := fun x y => g2 _ x y z2
  unfold lcT
  simp (config := { implicitDefEqProofs := false }) [y1, y2]
theorem st11 {n k : Int} (hn : 1 ≤ n ∧ n ≤ 40) (hk : 0 ≤ k ∧ k ≤ n) : gq11 [y0, some h, y2, y3, y4, y5, y6, y7, y8, y9, y10, y11, y12, some (.int n), some (.int k), some (.tup ((places n k).map .int)), y16, y17, y18, y19, y20, y21, y22] = .nx [y0, some h, y2, y3, y4, y5, y6, y7, y8, y9, y10, y11, y12, some (.int n), some (.int k), some (.tup ((places n k).map .int)), y16, some (.lst ((gapL (places n k)).map .int)), y18, y19, y20, y21, y22] := by
  have hl := len_pl hn hk
  have hg : (gapL (places n k)).length ≤ LN := by
    unfold gapL; rw [List.length_map, List.length_zip]
    have : (40 : Nat) ≤ LN := by decide
    omega
  have eg : (List.zip (places n k) ((places n k).drop 1)).map (fun p => p.2 - p.1) = gapL (places n k) := rfl
  generalize places n k = P at *
  have el := gap_lc P (P.drop 1) (s1 := 10) (s2 := 11) (δ := [y0, none, y2, y3, y4, y5, y6, y7, y8, y9, y10, y11, y12, some (.int n), some (.int k), some (.tup (P.map .int)), y16, y17, y18, y19, y20, y21, y22]) (by decide) (by simp) (by simp)
  rw [eg, List.map_drop] at el
  generalize gapL P = gs at *
  unfold gq11
  simp (config := { implicitDefEqProofs := false }) [zipD, cut1, el, hg, -List.drop_one]
theorem st12 {n k : Int} (hn : 1 ≤ n ∧ n ≤ 40) (hk : 0 ≤ k ∧ k ≤ n) : gq12 [y0, some h, y2, y3, y4, y5, y6, y7, y8, y9, y10, y11, y12, some (.int n), some (.int k), some (.tup ((places n k).map .int)), y16, some (.lst ((gapL (places n k)).map .int)), y18, y19, y20, y21, y22] = .nx [y0, some h, y2, y3, y4, y5, y6, y7, y8, y9, y10, y11, y12, some (.int n), some (.int k), some (.tup ((places n k).map .int)), y16, some (.lst ((gapL (places n k)).map .int)), y18, y19, y20, y21, y22] := by
  unfold gq12 q_law_18
  cases hg : gapL (places n k) with
  | nil =>
    generalize (.tup ((places n k).map .int) : D) = ps
    simp (config := { implicitDefEqProofs := false }) []
  | cons x xs =>
    obtain ⟨m, l, e1, e2, e3⟩ := gaps_ok hg
    generalize (.tup ((places n k).map .int) : D) = ps
    have f1 := max_ints e1
    have f2 : minD [.lst ((x :: xs).map D.int)] = some (.int l) := by
      show (intsOf ((x :: xs).map D.int)).bind (fun ns => (minI ns).map D.int) = _
      rw [intsOf_map]; show (minI (x :: xs)).map _ = _; rw [e2]; rfl
    have hp : 0 < ((x :: xs).map D.int).length := by simp
    generalize (x :: xs).map D.int = gs at *
    simp (config := { implicitDefEqProofs := false }) [f1, f2, e3, hp]
theorem st13 (ho : HandOk h) : ∃ (rs : List Str) (h' : D), gq13 [y0, some h, y2, y3, y4, y5, y6, y7, y8, y9, y10, y11, y12, y13, y14, y15, y16, y17, y18, y19, y20, y21, y22] = .nx [y0, some h', y2, y3, y4, y5, y6, y7, y8, y9, y10, y11, y12, y13, y14, y15, y16, y17, some (.tup (rs.map .str)), y19, y20, y21, y22] ∧ HandOk h' ∧ rs ≠ [] ∧ rs.length ≤ 5 ∧ ∀ r ∈ rs, RowGood r := by
  obtain ⟨rs, h', e, ho', h1, h2, h3⟩ := chart_ok ho
  refine ⟨rs, h', ?_, ho', h1, h2, h3⟩
  unfold gq13
  simp (config := { implicitDefEqProofs := false }) [e]
theorem st14 {rs : List Str} (h1 : rs ≠ []) (h2 : rs.length ≤ 5) (h3 : ∀ r ∈ rs, RowGood r) (ho : HandOk h) : ∃ (many : Int) (h' : D), gq14 [y0, some h, y2, y3, y4, y5, y6, y7, y8, y9, y10, y11, y12, y13, y14, y15, y16, y17, some (.tup (rs.map .str)), y19, y20, y21, y22] = .nx [y0, some h', y2, y3, y4, y5, y6, y7, y8, y9, y10, y11, y12, y13, y14, y15, y16, y17, some (.tup (rs.map .str)), some (.int many), y20, y21, y22] ∧ HandOk h' ∧ 0 ≤ many ∧ many ≤ rs.length := by
  obtain ⟨v1, h', e1, a1, b1, ho1⟩ := draw_ok (many := (rs.length : Int) + 1) ho (by omega) (by omega)
  refine ⟨v1, h', ?_, ho1, by omega⟩
  unfold gq14
  simp (config := { implicitDefEqProofs := false }) [e1]
theorem st15 {rs : List Str} (h1 : rs ≠ []) (h2 : rs.length ≤ 5) (h3 : ∀ r ∈ rs, RowGood r) {many : Int} (m0 : 0 ≤ many) (m1 : many ≤ rs.length) : gq15 [y0, some h, y2, y3, y4, y5, y6, y7, y8, y9, y10, y11, y12, y13, y14, y15, y16, y17, some (.tup (rs.map .str)), some (.int many), y20, y21, y22] = .nx [y0, some h, y2, y3, y4, y5, y6, y7, y8, y9, y10, y11, y12, y13, y14, y15, y16, y17, some (.tup (rs.map .str)), some (.int many), y20, y21, y22] := by
  have eu := undo_ok h3 h1 h2 m0 m1
  have h5 : (5 : Nat) ≤ LN := by decide
  have ei := is_self 5 (.tup (cutL (rs.map D.str) none (some ((rs.length : Int) - many)))) (.tup _ _ (fun d hd => by
    obtain ⟨r, hr, rfl⟩ := List.mem_map.mp (cut_mem hd)
    exact .str _ _ (row_str (h3 r hr).1)) (by have := cutL_len (rs.map D.str) none (some ((rs.length : Int) - many)); rw [List.length_map] at this; omega))
  unfold gq15 q_law_22
  simp (config := { implicitDefEqProofs := false }) [eu, ei]
theorem row_step {r : Str} (hr : RowGood r) (h : D) : ∃ y21' : Option D, b_law_24 [y0, some h, y2, y3, y4, y5, y6, y7, y8, y9, y10, y11, y12, y13, y14, y15, y16, y17, y18, y19, some (.str r), y21, y22] = .nx [y0, some h, y2, y3, y4, y5, y6, y7, y8, y9, y10, y11, y12, y13, y14, y15, y16, y17, y18, y19, some (.str r), y21', y22] := by
  obtain ⟨z, ez, es⟩ := rev_s hr
  have ed : dispD ([.str "k", .str "p", .str "d", .str "e"], [.str "p", .str "k", .str "e", .str "d"]) = some (.dct 0 [.str "k", .str "p", .str "d", .str "e"] [.str "p", .str "k", .str "e", .str "d"]) := by
    unfold dispD
    rw [show keysOf ([.str "k", .str "p", .str "d", .str "e"], [D.str "p", .str "k", .str "e", .str "d"]).1 = some [.inr "k", .inr "p", .inr "d", .inr "e"] from rfl]
    rw [Option.bind_some, if_pos (by decide +kernel)]
  have el : lcL (lcT [22] (setD 22) bYes (pM "dict" dgetD (pDisp [(pC (.str "k"), pC (.str "p")), (pC (.str "p"), pC (.str "k")), (pC (.str "d"), pC (.str "e")), (pC (.str "e"), pC (.str "d"))]) (aCons (pVar 22) (aCons (pVar 22) aNil))) [y0, none, y2, y3, y4, y5, y6, y7, y8, y9, y10, y11, y12, y13, y14, y15, y16, y17, y18, y19, some (.str r), y21, y22]) ((sgn z).map D.str) = .ok (((sgn r).reverse.map tr).map D.str) := by
    rw [es, List.map_map]
    refine lcL_map fun x hx => ?_
    have eg := (tr_get x (hr.1 x (List.mem_reverse.mp hx))).2.1
    simp (config := { implicitDefEqProofs := false }) [lcT, ed, recvOk, eg]
  have h12 : (12 : Nat) ≤ LN := by decide
  have hl : (((sgn r).reverse.map tr).map D.str).length ≤ LN := by
    rw [List.length_map, List.length_map, List.length_reverse, sgn_len]; have := hr.2.2; omega
  have ej := turn_join hr
  generalize ((sgn r).reverse.map tr).map D.str = ts at el hl ej
  have t1 := turn_ok hr
  have t2 := turn_ok (turn_good hr)
  rw [turn_twice hr] at t2
  have ei := is_self 5 _ (.str 5 _ (row_str (turn_good hr).1))
  have en := neD_ss (row_str hr.1) (row_str hr.1)
  refine ⟨some (.str (turnS r)), ?_⟩
  unfold b_law_24 q_law_26
  simp (config := { implicitDefEqProofs := false }) [recvOk, ez, walk_sgn, el, hl, ej, t1, t2, ei, en]
end
theorem row_run : ∀ (rs : List Str), (∀ r ∈ rs, RowGood r) → ∀ (y0 y1 y2 y3 y4 y5 y6 y7 y8 y9 y10 y11 y12 y13 y14 y15 y16 y17 y18 y19 y20 y21 y22 : Option D) (h : D), ∃ y20' y21' : Option D, forL (setD 20) b_law_24 (rs.map D.str) [y0, some h, y2, y3, y4, y5, y6, y7, y8, y9, y10, y11, y12, y13, y14, y15, y16, y17, y18, y19, y20, y21, y22] = .nx [y0, some h, y2, y3, y4, y5, y6, y7, y8, y9, y10, y11, y12, y13, y14, y15, y16, y17, y18, y19, y20', y21', y22]
  | [], _, y0, y1, y2, y3, y4, y5, y6, y7, y8, y9, y10, y11, y12, y13, y14, y15, y16, y17, y18, y19, y20, y21, y22, h => ⟨y20, y21, rfl⟩
  | r :: rs, hr, y0, y1, y2, y3, y4, y5, y6, y7, y8, y9, y10, y11, y12, y13, y14, y15, y16, y17, y18, y19, y20, y21, y22, h => by
    obtain ⟨z21, e1⟩ := row_step y0 y2 y3 y4 y5 y6 y7 y8 y9 y10 y11 y12 y13 y14 y15 y16 y17 y18 y19 y21 y22 (hr r List.mem_cons_self) h
    obtain ⟨z20, w21, e2⟩ := row_run rs (fun x hx => hr x (List.mem_cons_of_mem _ hx)) y0 y1 y2 y3 y4 y5 y6 y7 y8 y9 y10 y11 y12 y13 y14 y15 y16 y17 y18 y19 (some (.str r)) z21 y22 h
    refine ⟨z20, w21, ?_⟩
    rw [List.map_cons]
    unfold forL
    rw [setD_e]
    dsimp only [putAll_cons, putAll_nil]
    show (match b_law_24 [y0, some h, y2, y3, y4, y5, y6, y7, y8, y9, y10, y11, y12, y13, y14, y15, y16, y17, y18, y19, some (.str r), y21, y22] with
      | .nx δ1 => forL (setD 20) b_law_24 (rs.map D.str) δ1
      | .ct δ1 => forL (setD 20) b_law_24 (rs.map D.str) δ1
      | .bk δ1 => .nx δ1
      | r => r) = _
    rw [e1]
    exact e2
/-- between the turns -/
def Inv1 (δ : DS) : Prop := ∃ (y0 y1 y2 y3 y4 y5 y6 y7 y8 y9 y10 y11 y12 y13 y14 y15 y16 y17 y18 y19 y20 y21 y22 : Option D) (h : D), δ = [y0, some h, y2, y3, y4, y5, y6, y7, y8, y9, y10, y11, y12, y13, y14, y15, y16, y17, y18, y19, y20, y21, y22] ∧ HandOk h
theorem turn_inv : ∀ δ, Inv1 δ → ∀ d, ∃ δ', b_law_2 (putAll δ [(2, d)]) = .nx δ' ∧ Inv1 δ' := by
  rintro δ ⟨y0, y1, y2, y3, y4, y5, y6, y7, y8, y9, y10, y11, y12, y13, y14, y15, y16, y17, y18, y19, y20, y21, y22, h, rfl, ho⟩ d
  show ∃ δ', b_law_2 [y0, some h, some d, y3, y4, y5, y6, y7, y8, y9, y10, y11, y12, y13, y14, y15, y16, y17, y18, y19, y20, y21, y22] = .nx δ' ∧ Inv1 δ'
  generalize some d = y2
  rw [b_law_2_eq]
  obtain ⟨a, b, h0, e0, ho0, ha, hb⟩ := st0 y0 y2 y3 y4 y5 y6 y7 y8 y9 y10 y11 y12 y13 y14 y15 y16 y17 y18 y19 y20 y21 y22 ho
  rw [sSeq_e, e0]
  dsimp only
  obtain ⟨rows, most, h1, e1, ho1, hr, hm⟩ := st1 y0 y2 y5 y6 y7 y8 y9 y10 y11 y12 y13 y14 y15 y16 y17 y18 y19 y20 y21 y22 (a := a) (b := b) ho0
  rw [sSeq_e, e1]
  dsimp only
  obtain ⟨b1, h2, e2, ho2, hb1⟩ := st2 y0 y2 y7 y8 y9 y10 y11 y12 y13 y14 y15 y16 y17 y18 y19 y20 y21 y22 (a := a) (b := b) (rows := rows) (most := most) ho1 ha hb
  rw [sSeq_e, e2]
  dsimp only
  rw [sSeq_e, st3 y0 y2 y7 y8 y9 y10 y11 y12 y13 y14 y15 y16 y17 y18 y19 y20 y21 y22 (h := h2) ha hb1 hr hm]
  dsimp only
  rw [sSeq_e, st4 y0 y2 y8 y9 y10 y11 y12 y13 y14 y15 y16 y17 y18 y19 y20 y21 y22 (h := h2) ha hb1 hr hm]
  dsimp only
  rw [sSeq_e, st5 y0 y2 y8 y10 y11 y12 y13 y14 y15 y16 y17 y18 y19 y20 y21 y22 (h := h2) ha hb1 hr hm]
  dsimp only
  rw [sSeq_e, st6 y0 y2 y8 y10 y11 y13 y14 y15 y16 y17 y18 y19 y20 y21 y22 (h := h2) ha hb1 hr hm]
  dsimp only
  generalize some (D.int a) = y3
  generalize some (D.int b1) = y4
  generalize some (D.lst ((cnt a b1 (mdl rows) rows).map .int)) = y7
  generalize some (D.lst ((stp a (cnt a b1 (mdl rows) rows)).map .int)) = y9
  generalize some (D.bl (farB a b1 rows most)) = y12
  generalize some (D.int rows) = y5
  generalize some (D.int most) = y6
  obtain ⟨n, h7, e7, ho7, hn⟩ := st7 y0 y2 y3 y4 y5 y6 y7 y8 y9 y10 y11 y12 y13 y14 y15 y16 y17 y18 y19 y20 y21 y22 ho2
  rw [sSeq_e, e7]
  dsimp only
  obtain ⟨k, h8, e8, ho8, hk⟩ := st8 y0 y2 y3 y4 y5 y6 y7 y8 y9 y10 y11 y12 y14 y15 y16 y17 y18 y19 y20 y21 y22 ho7 hn
  rw [sSeq_e, e8]
  dsimp only
  rw [sSeq_e, st9 y0 y2 y3 y4 y5 y6 y7 y8 y9 y10 y11 y12 y15 y16 y17 y18 y19 y20 y21 y22 (h := h8) hn hk]
  dsimp only
  rw [sSeq_e, st10 y0 y2 y3 y4 y5 y6 y7 y8 y9 y10 y11 y12 y16 y17 y18 y19 y20 y21 y22 (h := h8) hn hk]
  dsimp only
  rw [sSeq_e, st11 y0 y2 y3 y4 y5 y6 y7 y8 y9 y10 y11 y12 y16 y17 y18 y19 y20 y21 y22 (h := h8) hn hk]
  dsimp only
  rw [sSeq_e, st12 y0 y2 y3 y4 y5 y6 y7 y8 y9 y10 y11 y12 y16 y18 y19 y20 y21 y22 (h := h8) hn hk]
  dsimp only
  generalize some (D.int n) = y13
  generalize some (D.int k) = y14
  generalize some (D.tup ((places n k).map .int)) = y15
  generalize some (D.lst ((gapL (places n k)).map .int)) = y17
  obtain ⟨rs, h13, e13, ho13, k1, k2, k3⟩ := st13 y0 y2 y3 y4 y5 y6 y7 y8 y9 y10 y11 y12 y13 y14 y15 y16 y17 y18 y19 y20 y21 y22 ho8
  rw [sSeq_e, e13]
  dsimp only
  obtain ⟨many, h14, e14, ho14, m0, m1⟩ := st14 y0 y2 y3 y4 y5 y6 y7 y8 y9 y10 y11 y12 y13 y14 y15 y16 y17 y19 y20 y21 y22 k1 k2 k3 ho13
  rw [sSeq_e, e14]
  dsimp only
  rw [sSeq_e, st15 y0 y2 y3 y4 y5 y6 y7 y8 y9 y10 y11 y12 y13 y14 y15 y16 y17 y20 y21 y22 (h := h14) k1 k2 k3 m0 m1]
  dsimp only
  obtain ⟨y20', y21', e16⟩ := row_run rs k3 y0 none y2 y3 y4 y5 y6 y7 y8 y9 y10 y11 y12 y13 y14 y15 y16 y17 (some (.tup (rs.map .str))) (some (.int many)) y20 y21 y22 h14
  have e17 : gq16 [y0, some h14, y2, y3, y4, y5, y6, y7, y8, y9, y10, y11, y12, y13, y14, y15, y16, y17, some (.tup (rs.map .str)), some (.int many), y20, y21, y22] = .nx [y0, some h14, y2, y3, y4, y5, y6, y7, y8, y9, y10, y11, y12, y13, y14, y15, y16, y17, some (.tup (rs.map .str)), some (.int many), y20', y21', y22] := by
    unfold gq16 q_law_24
    simp (config := { implicitDefEqProofs := false }) [e16]
  rw [sSeq_e, e17]
  dsimp only
  rw [sNil_e]
  exact ⟨_, rfl, y0, none, y2, y3, y4, y5, y6, y7, y8, y9, y10, y11, y12, y13, y14, y15, y16, y17, some (.tup (rs.map .str)), some (.int many), y20', y21', y22, h14, rfl, ho14⟩
theorem run_inv : ∀ (ds : List D) (δ : DS), Inv1 δ → ∃ δ', forL (setD 2) b_law_2 ds δ = .nx δ' ∧ Inv1 δ'
  | [], δ, h => ⟨δ, rfl, h⟩
  | d :: ds, δ, h => by
    obtain ⟨δ1, e1, h1⟩ := turn_inv δ h d
    obtain ⟨δ2, e2, h2⟩ := run_inv ds δ1 h1
    refine ⟨δ2, ?_, h2⟩
    unfold forL
    rw [setD_e]
    dsimp only
    rw [e1]
    exact e2
theorem law_plain (ns : List Int) (hl : ns.length ≤ 63) : den_law [.fl (ns.map .int)] = .ok (.bl true) := by
  obtain ⟨h, eh, ho⟩ := hand_ok ns hl
  have er : range1D [.int 8] = some (rngD 0 8) := range1_eq (by omega)
  obtain ⟨δ', e, y0, y1, y2, y3, y4, y5, y6, y7, y8, y9, y10, y11, y12, y13, y14, y15, y16, y17, y18, y19, y20, y21, y22, h', rfl, ho'⟩ := run_inv (rngD 0 8) [some (.fl (ns.map .int)), some h, none, none, none, none, none, none, none, none, none, none, none, none, none, none, none, none, none, none, none, none, none] ⟨some (.fl (ns.map .int)), none, none, none, none, none, none, none, none, none, none, none, none, none, none, none, none, none, none, none, none, none, none, h, rfl, ho⟩
  refine denP_rt (δ := [y0, some h', y2, y3, y4, y5, y6, y7, y8, y9, y10, y11, y12, y13, y14, y15, y16, y17, y18, y19, y20, y21, y22]) rfl ?_
  show body_law [some (.fl (ns.map .int)), none, none, none, none, none, none, none, none, none, none, none, none, none, none, none, none, none, none, none, none, none, none] = _
  unfold body_law q_law_2
  simp (config := { implicitDefEqProofs := false }) [eh, er, e]
end Lw

open PySem PySem.W PyProof.Rows
set_option maxHeartbeats 0 in
theorem PySem.Challenge.cw_loomhouse_k46_whole_shapes_of_knitting_holds : PySem.Challenge.rw_loomhouse_k46_whole_shapes_of_knitting.Holds := by
  w_on; o_law; k_head; (case hw => w_witness2)
  k_fill
  refine L2.walk_of (l := PySem.Challenge.rw_loomhouse_k46_whole_shapes_of_knitting) (n := 63) (k := 8) (x := "script") (CX := fun w => L2.CX PySem.Challenge.rw_loomhouse_k46_whole_shapes_of_knitting.prog w) (sp := fun w => Dn.spLaw _) rfl (by decide) rfl ⟨rfl, by decide, by decide⟩ (fun w h Y => PySem.W.kIn_of Y) ?F (fun _ H a ns hl o s => Dn.law_end H a ns hl o s) (fun w H s e s' => Dn.cx_no _ w H s e s')
  case F =>
    intro w mg fa h KX G hmg
    obtain ⟨T, e, hb⟩ : ∃ T : Lw.Tx _ mg w, T.a_law = fa ∧ ∀ (s : Shared) (v : Value), BindsTo s T.f_law ⟨[v], []⟩ [("script", v)] := by
      refine' Lw.all_mk KX G hmg ?a27 ?l27 ?c27 ?k27 ?a28 ?l28 ?c28 ?k28 ?a30 ?l30 ?c30 ?k30 ?a31 ?l31 ?c31 ?k31 ?a29 ?l29 ?c29 ?k29 ?a33 ?l33 ?c33 ?k33 ?a32 ?l32 ?c32 ?k32 ?a34 ?l34 ?c34 ?k34 ?a35 ?l35 ?c35 ?k35 ?a1 ?l1 ?c1 ?k1 ?a2 ?l2 ?c2 ?k2 ?a22 ?l22 ?c22 ?k22 ?a23 ?l23 ?c23 ?k23 ?a3 ?l3 ?c3 ?k3 ?a18 ?l18 ?c18 ?k18 ?a20 ?l20 ?c20 ?k20 ?a21 ?l21 ?c21 ?k21 ?a24 ?l24 ?c24 ?k24 ?a19 ?l19 ?c19 ?k19 ?a25 ?l25 ?c25 ?k25 ?a36 ?l36 ?c36 ?k36 ?qq0 ?qq1 ?qq2 ?qq3 ?qq4 ?qq5 ?lqq5 ?yqq5 ?xqq5 ?qq6 ?qq7 ?lqq7 ?yqq7 ?xqq7 ?z_abs ?z_int ?z_len ?z_sum ?z_range ?z_tuple ?z_isinstance ?z_list ?z_all ?z_zip ?z_dict ?z_str ?z_bool ?z_max ?z_any ?z_min
      (case a27 => k_is)
      (case l27 => k_is)
      (case c27 => k_is)
      (case k27 => k_is)
      (case a28 => k_is)
      (case l28 => k_is)
      (case c28 => k_is)
      (case k28 => k_is)
      (case a30 => k_is)
      (case l30 => k_is)
      (case c30 => k_is)
      (case k30 => k_is)
      (case a31 => k_is)
      (case l31 => k_is)
      (case c31 => k_is)
      (case k31 => k_is)
      (case a29 => k_is)
      (case l29 => k_is)
      (case c29 => k_is)
      (case k29 => k_is)
      (case a33 => k_is)
      (case l33 => k_is)
      (case c33 => k_is)
      (case k33 => k_is)
      (case a32 => k_is)
      (case l32 => k_is)
      (case c32 => k_is)
      (case k32 => k_is)
      (case a34 => k_is)
      (case l34 => k_is)
      (case c34 => k_is)
      (case k34 => k_is)
      (case a35 => k_is)
      (case l35 => k_is)
      (case c35 => k_is)
      (case k35 => k_is)
      (case a1 => k_is)
      (case l1 => k_is)
      (case c1 => k_is)
      (case k1 => k_is)
      (case a2 => k_is)
      (case l2 => k_is)
      (case c2 => k_is)
      (case k2 => k_is)
      (case a22 => k_is)
      (case l22 => k_is)
      (case c22 => k_is)
      (case k22 => k_is)
      (case a23 => k_is)
      (case l23 => k_is)
      (case c23 => k_is)
      (case k23 => k_is)
      (case a3 => k_is)
      (case l3 => k_is)
      (case c3 => k_is)
      (case k3 => k_is)
      (case a18 => k_is)
      (case l18 => k_is)
      (case c18 => k_is)
      (case k18 => k_is)
      (case a20 => k_is)
      (case l20 => k_is)
      (case c20 => k_is)
      (case k20 => k_is)
      (case a21 => k_is)
      (case l21 => k_is)
      (case c21 => k_is)
      (case k21 => k_is)
      (case a24 => k_is)
      (case l24 => k_is)
      (case c24 => k_is)
      (case k24 => k_is)
      (case a19 => k_is)
      (case l19 => k_is)
      (case c19 => k_is)
      (case k19 => k_is)
      (case a25 => k_is)
      (case l25 => k_is)
      (case c25 => k_is)
      (case k25 => k_is)
      (case a36 => k_is)
      (case l36 => k_is)
      (case c36 => k_is)
      (case k36 => k_is)
      (case qq0 => k_is)
      (case qq1 => k_is)
      (case qq2 => k_is)
      (case qq3 => k_is)
      (case qq4 => k_is)
      (case qq5 => k_is)
      (case lqq5 => k_is)
      (case yqq5 => exact ⟨⟨_, _, rfl, rfl⟩, ⟨⟨_, _, rfl, rfl⟩, ⟨⟨_, _, rfl, rfl⟩, ⟨⟨_, _, rfl, rfl⟩, ⟨⟨_, _, rfl, rfl⟩, ⟨⟨_, _, rfl, rfl⟩, ⟨⟨_, _, rfl, rfl⟩, ⟨⟨_, _, rfl, rfl⟩, trivial⟩⟩⟩⟩⟩⟩⟩⟩)
      (case xqq5 => first | rfl | decide +kernel)
      (case qq6 => k_is)
      (case qq7 => k_is)
      (case lqq7 => k_is)
      (case yqq7 => exact ⟨⟨_, _, rfl, rfl⟩, ⟨⟨_, _, rfl, rfl⟩, ⟨⟨_, _, rfl, rfl⟩, ⟨⟨_, _, rfl, rfl⟩, trivial⟩⟩⟩⟩)
      (case xqq7 => first | rfl | decide +kernel)
      (case z_abs => k_is)
      (case z_int => k_is)
      (case z_len => k_is)
      (case z_sum => k_is)
      (case z_range => k_is)
      (case z_tuple => k_is)
      (case z_isinstance => k_is)
      (case z_list => k_is)
      (case z_all => k_is)
      (case z_zip => k_is)
      (case z_dict => k_is)
      (case z_str => k_is)
      (case z_bool => k_is)
      (case z_max => k_is)
      (case z_any => k_is)
      (case z_min => k_is)
    subst e
    exact ⟨T.f_law, hb, fun base _ _ => Dn.law_fn (Lw.ok_law T) Lw.law_plain⟩
